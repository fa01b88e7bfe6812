/- Texts of this proof: C9g. -/
import Derived.Test.YtmgpefenkilffaaGreatSW43
set_option linter.all false
set_option maxRecDepth 100000
set_option maxHeartbeats 16000000
namespace Go.Proofs.YtmgpefenkilffaaGreat
section
open Go.RowKit
attribute [local go_sem ↓] Go.wp_at_zero Go.wp_at_succ
def VS (M:Nat)(cp:Int)(h:Hin):Prop:=
 (h.op=0/\h.x=0/\h.y=0/\h.n=0/\h.l=[])\/(h.op=1/\h.x=0/\h.y=0/\h.n=0/\(h.l=[]\/∃e:Int,0<=e/\e<=2/\h.l=[(97,97+e)]))\/(h.op=2/\(0<=h.x/\h.x<M)/\(0<=h.y/\h.y<M)/\h.n=0/\h.l=[])\/(h.op=3/\(0<=h.x/\h.x<M)/\h.y=0/\h.n=0/\h.l=[])\/
  (h.op=4/\h.x=0/\h.y=0/\(0<=h.n/\h.n+1<=2*cp)/\h.l=[])\/(h.op=5/\h.x=0/\h.y=0/\(0<=h.n/\h.n<=5)/\h.l=[])
def CodeS (M:Nat)(cp:Int)(hs:List Hin):Prop:=(∀h∈hs,VS M cp h)/\∀ks z,hs=ks++[z]->hs.length=M->(z.op=0\/z.op=2\/z.op=3)
theorem CodeS.nil (M:Nat)(cp:Int):CodeS M cp []:=⟨by simp,fun ks z h=>by simp at h⟩
theorem CodeS.push {N i:Nat}{cp:Int}{hs ys:List Hin}{V:Hin}(h:CodeS (N+1) cp hs)(hi:hs.length=i)(hv:VS (N+1) cp V)(hl:i=N->(V.op=0\/V.op=2\/V.op=3))(hy:ys=hs++[V]):CodeS (N+1) cp ys:=by
 subst hy;refine⟨fun x hx=>?_,fun ks z e hn=>?_⟩
 ·rcases List.mem_append.1 hx with hx|hx
  ·exact h.1 x hx
  ·rw[List.mem_singleton.1 hx];exact hv
 ·obtain⟨_,e2⟩:=List.append_inj' e rfl;injection e2 with e2
  subst e2;exact hl (by simp at hn;omega)
structure InOv (M:Nat)(cp:Int)(w:World)(x:Hin):Prop where
 ok:HinOk w x
 vs:VS M cp x
 typ:∀b,x.A.map (·.block)=some b->∃cur,w.heap[b]? = some (.cells cur 81 (0,0))
theorem InOv.plain (M:Nat)(cp:Int)(w:World){op x y n:Int}(h:I64 op/\I64 x/\I64 y/\I64 n)(hv:VS M cp ⟨op,x,y,n,none,0,[]⟩):InOv M cp w ⟨op,x,y,n,none,0,[]⟩:=⟨HinOk.plain w h,hv,by simp⟩
theorem InOv.sym {M:Nat}{cp:Int}{w:World}{g:Nat}{e:Int}(hb:Blk w g 81 #[.int .i64 97,.int .i64 (97+e)])(he:0<=e/\e<=2):InOv M cp w ⟨1,0,0,0,some ⟨g,0,none⟩,1,[(97,97+e)]⟩:=by
 refine⟨⟨by simp[Hin.wf,I64],?_,?_⟩,.inr (.inl ⟨rfl,rfl,rfl,rfl,.inr ⟨e,he.1,he.2,rfl⟩⟩),fun b h=>?_⟩
 ·refine SL.of_ownT (base:=0) (T:=81) ?_ (fun s hs=>?_)
  ·have h:=OwnS.of_blk (n:=1) (c:=1) (size:=2) (base:=0) hb (Nat.zero_le _) si si um
   simpa[flatS] using h
  ·rw[List.mem_singleton.1 hs];unfold S64 I64;simp only;omega
 ·refine⟨by simp,fun s hs=>?_⟩;rw[List.mem_singleton.1 hs];have:e=0\/e=1\/e=2:=om;rcases this with rfl|rfl|rfl<;>simp[rimE]
 ·simp at h;subst h;exact⟨_,hb⟩
theorem lastOv {i N M:Nat}{cp:Int}{w:World}{V:Hin}(_:InOv M cp w V)(h:i=N->(V.op=0\/V.op=2\/V.op=3)):Hid (i=N->(V.op=0\/V.op=2\/V.op=3)):=lh h
theorem mkYv (hs:List Hin){M:Nat}{cp:Int}{w:World}{V:Hin}(_:InOv M cp w V):∃ys,Hid (ys=hs++[V]):=⟨_,lh rfl⟩
theorem c9ev {P:Prop}(h:P:=by
 have HGq:=lh (HGO.out.ext (y7.trans HXN.out));have HBq:=lh (HBG.out.ext (y7.trans HXN.out));have HX5n:=lh ((x1.trans y7).trans HXN.out);have zz0:wn.cell? ⟨gq,0,none⟩=some (.slice A hs.length c):=HBq.out.cell 0;obtain⟨ys,HY⟩:=mkYv hs HS.out;have HCY:=lh (CodeS.push HCS.out HLN.out HS.out.vs HLS.out HY.out);have hyl:Hid (ys.length=i+1):=lh (by rw[HY.out,List.length_append,HLN.out];rfl);have hcg:=OwnS.caps HGq.out.own;have HNE:=lh (own_blk HGq.out.own HBq.out de)
 go_upto_region 5 with(at_builtin;refine wpList_app1 (w0:=wn) (base:=w5) rfl _ _ _ rfl iI Tryz.underlying23 jI0 jI1 jI2 jI3 A c hs rfl ⟨OwnS.ext HGq.out.own (Ext.alloc _ _),HGq.out.ok,HX5n.out.trans (Ext.alloc _ _)⟩ _ 1 _ HS.out.ok rfl (hin_blk (Blk.new _ _ _)) (by have:=HLN.out;omega) ys HY.out ?_;intro A9 c9 w9 h9 x9 hr9 hg9;have hb9:=(KpP.of_grown hg9).blk (HBq.out.alloc _) HNE.out;have HB9:=lh hb9;have HX9:=lh x9;have HG9:=lh (GpO.push HGq.out HS.out.ok HS.out.typ hg9 h9.own HY.out);have zz9:w9.cell? ⟨gq,0,none⟩=some (.slice A hs.length c):=hb9.cell 0;have zf9:=hb9.frz 0;clear h9 hg9 hr9 x9 hb9)
 have B10:Blk (w9.setCell ⟨gq,0,none⟩ (.slice A9 ys.length c9)) gq 25 #[.slice A9 ys.length c9,.int .i64 cp,.bool rn]:=by simpa using HB9.out.set 0 (.slice A9 ys.length c9)
 have G10:=HG9.out.kp (KpP.set (p:=(·=gq)) (x:=⟨gq,0,none⟩) (KpP.refl _ w9) (.inl rfl) (.slice A9 ys.length c9)) (fun b hb e=>by have e2:b=gq:=e;subst e2;exact own_blk HG9.out.own HB9.out de hb) (fun b cur hb=>blk_ne HB9.out de hb);have X10:=HX9.out.setNew (p:=⟨gq,0,none⟩) hgql (.slice A9 ys.length c9);clear zz9 zf9 HB9 HG9 HX9 y0 y1 y2 y3 y4 zz0;generalize w9.setCell ⟨gq,0,none⟩ (.slice A9 ys.length c9)=w10 at *;have B10:=lh B10;have G10:=lh G10
 go_wp2_with fail
 go_roundw
 case rel=>exact⟨i+1,A9,c9,ys,by go_num,om,hyl,HCY,B10,G10,X10⟩
 case measure=>simp[intOf];omega):P:=h
theorem c9av {P:Prop}(h:P:=by
 have HXN:=lh xn;have HBN:=lh bn;obtain⟨y0,y1,y2,y3,y4⟩:=in_cells bn;obtain⟨f0,f1,f2,f3,f4⟩:=in_frz bn;simp only[List.length_nil,List.length_cons,Nat.zero_add] at y4;have ewN:IntKind.i64.wrap ((N:Int)+1-1)=(N:Int):=wj;clear bn xn;by_cases hiN:i=N
 ·have hiN1:((i:Int) == (N:Int))=true:=by simp[hiN]
  go_upto_region 29 with fail
  have bz:=setIn_cs HBN.out ⟨0,0,0,0,none,0,[]⟩;have xz:=setIn_ext HXN.out hg7l ⟨0,0,0,0,none,0,[]⟩;change Code.wp _ _ _ _ (setIn wn g7 ⟨0,0,0,0,none,0,[]⟩);clear y0 y1 y2 y3 y4 f0 f1 f2 f3 f4 HS HXN HBN;generalize setIn wn g7 ⟨0,0,0,0,none,0,[]⟩=wn at *;have HXN:=lh xz;have HBN:=lh bz;have HS:=lh (InOv.plain (N+1) cp wn (op:=0) (x:=0) (y:=0) (n:=0) (by simp[I64]) (.inl ⟨rfl,rfl,rfl,rfl,rfl⟩));obtain⟨y0,y1,y2,y3,y4⟩:=in_cells bz;simp only[List.length_nil] at y4;clear bz xz;have HLS:=lastOv (i:=i) (N:=N) HS.out (fun _=>.inl rfl);exact c9ev
 ·have hiN1:((i:Int) == (N:Int))=false:=by simp;omega
  go_upto_region 29 with fail
  have HLS:=lastOv (i:=i) (N:=N) HS.out (fun h=>absurd h hiN);exact c9ev):P:=h
theorem c9bv {P:Prop}(h:P:=by
 have HXN:=lh xn;have HBN:=lh bn;obtain⟨y0,y1,y2,y3,y4⟩:=in_cells bn;obtain⟨f0,f1,f2,f3,f4⟩:=in_frz bn;simp only[List.length_nil,List.length_cons,Nat.zero_add] at y4;have ewN:IntKind.i64.wrap ((N:Int)+1-1)=(N:Int):=wj;clear bn xn;by_cases hiN:i=N
 ·have hiN1:((i:Int) == (N:Int))=true:=by simp[hiN]
  go_upto_region 29 with fail
  have HLS:=lastOv (i:=i) (N:=N) HS.out (fun _=>by first|exact .inl rfl|exact .inr (.inl rfl)|exact .inr (.inr rfl));exact c9ev
 ·have hiN1:((i:Int) == (N:Int))=false:=by simp;omega
  go_upto_region 29 with fail
  have HLS:=lastOv (i:=i) (N:=N) HS.out (fun h=>absurd h hiN);exact c9ev):P:=h
def RetSv (w:World)(e:Ending)(w':World):Prop:=
 ∃(A:Option Addr) (c:Nat) (hs:List Hin) (caps:Int) (rn:Bool),e=.returned (.agg #[.slice A hs.length c,.int .i64 caps,.bool rn])/\GpO w w' A c hs/\CodeS hs.length caps hs/\1<=hs.length/\hs.length<=12/\0<=caps/\caps<=2/\Ext w w'
theorem C9gz1 {P:Prop} (h:P:=by
 have hE:0<=(k:Int) / 8 % 3/\(k:Int) / 8 % 3<=2:=om
 go_upto_region 15 with fail
 change Code.wp _ _ _ _ ((setIn w8 g7 ⟨1,0,0,0,some ⟨w8.heap.size,0,none⟩,1,[(97,97+(k:Int) / 8 % 3)]⟩).alloc (.cells #[.int .i64 97,.int .i64 (97+(k:Int) / 8 % 3)] 81));have bs:Blk ((setIn w8 g7 ⟨1,0,0,0,some ⟨w8.heap.size,0,none⟩,1,[(97,97+(k:Int) / 8 % 3)]⟩).alloc (.cells #[.int .i64 97,.int .i64 (97+(k:Int) / 8 % 3)] 81)) w8.heap.size 81 #[.int .i64 97,.int .i64 (97+(k:Int) / 8 % 3)]:=by
  have h:=Blk.new (setIn w8 g7 ⟨1,0,0,0,some ⟨w8.heap.size,0,none⟩,1,[(97,97+(k:Int) / 8 % 3)]⟩) 81 #[.int .i64 97,.int .i64 (97+(k:Int) / 8 % 3)];have e:(setIn w8 g7 ⟨1,0,0,0,some ⟨w8.heap.size,0,none⟩,1,[(97,97+(k:Int) / 8 % 3)]⟩).heap.size=w8.heap.size:=by simp[setIn,World.setCell]
  rw[e] at h;exact h
 have bn:=(setIn_blk BI ⟨1,0,0,0,some ⟨w8.heap.size,0,none⟩,1,[(97,97+(k:Int) / 8 % 3)]⟩).alloc (.cells #[.int .i64 97,.int .i64 (97+(k:Int) / 8 % 3)] 81);have xn:=(setIn_ext EI hg7l ⟨1,0,0,0,some ⟨w8.heap.size,0,none⟩,1,[(97,97+(k:Int) / 8 % 3)]⟩).trans (Ext.alloc _ (.cells #[.int .i64 97,.int .i64 (97+(k:Int) / 8 % 3)] 81));clear y0 y1 y2 y3 y4 f0 f1 f2 f3 f4 z0 z1 q0 hl7 hlq BI EI;generalize ((setIn w8 g7 ⟨1,0,0,0,some ⟨w8.heap.size,0,none⟩,1,[(97,97+(k:Int) / 8 % 3)]⟩).alloc (.cells #[.int .i64 97,.int .i64 (97+(k:Int) / 8 % 3)] 81))=wn at *;generalize w8.heap.size=gs at *;have HS:=lh (InOv.sym (M:=N+1) (cp:=cp) bs hE);clear bs;obtain⟨y0,y1,y2,y3,y4⟩:=in_cells bn;obtain⟨f0,f1,f2,f3,f4⟩:=in_frz bn;simp only[List.length_nil,List.length_cons,Nat.zero_add] at y4;by_cases h5:(k:Int) / 8 % 5=4
 ·have h5I:((k:Int) / 8 % 5 == 4)=true:=by simp[h5]
  go_upto_region 27 with fail
  have bn2:Blk (wn.setCell ⟨g7,4,none⟩ (.slice none 0 0)) g7 128 (Hin.cs ⟨1,0,0,0,none,0,[]⟩):=by simpa[Hin.cs] using bn.set 4 (.slice none 0 0)
  have xn2:=xn.setNew (p:=⟨g7,4,none⟩) hg7l (.slice none 0 0);clear y0 y1 y2 y3 y4 f0 f1 f2 f3 f4 bn xn HS;generalize wn.setCell ⟨g7,4,none⟩ (.slice none 0 0)=wn at *;have bn:=bn2;have xn:=xn2;have HS:=lh (InOv.plain (N+1) cp wn (op:=1) (x:=0) (y:=0) (n:=0) (by simp[I64]) (.inr (.inl ⟨rfl,rfl,rfl,rfl,.inl rfl⟩)));clear bn2 xn2;exact c9av
 ·have h5I:((k:Int) / 8 % 5 == 4)=false:=by simp[h5]
  go_upto_region 27 with fail
  clear y0 y1 y2 y3 y4 f0 f1 f2 f3 f4;exact c9av):P:=h
theorem C9gz2 {P:Prop} (h:P:=by
 have r5I:((k:Int) % 8 == 5)=false:=by simp;omega
 have r6I:((k:Int) % 8 == 6)=false:=by simp;omega
 have hm1:0<=((k:Int) / 8).tmod ((N:Int)+1)/\((k:Int) / 8).tmod ((N:Int)+1)<(N:Int)+1:=⟨Int.tmod_nonneg _ om,Int.tmod_lt_of_pos _ om⟩;have hm2:0<=((i:Int)+1).tmod ((N:Int)+1)/\((i:Int)+1).tmod ((N:Int)+1)<(N:Int)+1:=⟨Int.tmod_nonneg _ om,Int.tmod_lt_of_pos _ om⟩;obtain⟨ta,eta⟩:∃t:Int,((i:Int)+1).tmod ((N:Int)+1)=t:=⟨_,rfl⟩;obtain⟨tb,etb⟩:∃t:Int,((k:Int) / 8).tmod ((N:Int)+1)=t:=⟨_,rfl⟩;rw[etb] at hm1;rw[eta] at hm2;have ewk8:IntKind.i64.wrap ((k:Int) / 8)=(k:Int) / 8:=wj;have ewi:IntKind.i64.wrap ((i:Int)+1)=(i:Int)+1:=wj
 go_upto_region 19 with fail
 clear z0 z1 q0 hl7 hlq;clear y0 y1 y2 y3 y4 f0 f1 f2 f3 f4;refine Xr.start [g7] kr ?_;refine Xtk 0 ?_
 iterate 8(refine Xtn ?_)
 refine Xsp 9 fun w9 hE9 hK9 K hKK=>?_;have b9:=BI.ext hE9;obtain⟨y0,y1,y2,y3,y4⟩:=in_cells (n:=⟨0,0,0,0,none,0,[]⟩) b9;simp only[List.length_nil] at y4;obtain⟨f0,f1,f2,f3,f4⟩:=in_frz b9;go_simp;change K _ (setIn w9 g7 ⟨2,ta,tb,0,none,0,[]⟩);refine hKK _ _ (setIn_kpp (KpP.refl _ _) (.inl si) _) (setIn_kp hK9 si _) ?_;clear hKK;refine ptm ?_;refine Xdn fun w11 hE11 hK11=>?_;have bz:=(setIn_cs (x:=⟨0,0,0,0,none,0,[]⟩) b9 ⟨2,ta,tb,0,none,0,[]⟩).ext hE11;have xz:=(setIn_ext (EI.trans hE9) hg7l ⟨2,ta,tb,0,none,0,[]⟩).trans hE11;clear y0 y1 y2 y3 y4 f0 f1 f2 f3 f4 hE9 hK9 hE11 hK11 b9 BI EI;by_cases h16:(k:Int) / 16 % 3=0
 ·have h16I:((k:Int) / 16 % 3 == 0)=true:=by simp[h16]
  go_upto_region 21 with fail
  obtain⟨y0,y1,y2,y3,y4⟩:=in_cells bz;obtain⟨f0,f1,f2,f3,f4⟩:=in_frz bz;clear y0 y1 y2 y3 y4 f0 f1 f2 f3 f4;refine Xr.start [g7] kr ?_;refine Xtk 0 ?_
  iterate 8(refine Xtn ?_)
  refine Xsp 9 fun w13 hE13 hK9 K hKK=>?_;have b9:=bz.ext hE13;obtain⟨y0,y1,y2,y3,y4⟩:=in_cells (n:=⟨2,ta,tb,0,none,0,[]⟩) b9;simp only[List.length_nil] at y4;obtain⟨f0,f1,f2,f3,f4⟩:=in_frz b9;go_simp;change K _ (setIn w13 g7 ⟨2,tb,ta,0,none,0,[]⟩);refine hKK _ _ (setIn_kpp (KpP.refl _ _) (.inl si) _) (setIn_kp hK9 si _) ?_;clear hKK;refine ptm ?_;refine Xdn fun w12 hE12 hK11=>?_;have bzz:=(setIn_cs (x:=⟨2,ta,tb,0,none,0,[]⟩) b9 ⟨2,tb,ta,0,none,0,[]⟩).ext hE12;have xzz:=(setIn_ext (xz.trans hE13) hg7l ⟨2,tb,ta,0,none,0,[]⟩).trans hE12;clear y0 y1 y2 y3 y4 f0 f1 f2 f3 f4 hE13 hK9 hE12 hK11 b9 bz xz;have bz:=bzz;have xz:=xzz;clear bzz xzz;have bn:=bz;have xn:=xz;have HS:=lh (InOv.plain (N+1) cp w12 (op:=2) (x:=tb) (y:=ta) (n:=0) (by simp only[I64];omega) (.inr (.inr (.inl ⟨rfl,(show 0<=tb/\tb<((N+1:Nat):Int) by push_cast;omega),(show 0<=ta/\ta<((N+1:Nat):Int) by push_cast;omega),rfl,rfl⟩))));clear bz xz
  go_upto_region 27 with fail
  generalize w12=wn at *;exact c9bv
 ·have h16I:((k:Int) / 16 % 3 == 0)=false:=by simp[h16]
  have bn:=bz;have xn:=xz;have HS:=lh (InOv.plain (N+1) cp w11 (op:=2) (x:=ta) (y:=tb) (n:=0) (by simp only[I64];omega) (.inr (.inr (.inl ⟨rfl,(show 0<=ta/\ta<((N+1:Nat):Int) by push_cast;omega),(show 0<=tb/\tb<((N+1:Nat):Int) by push_cast;omega),rfl,rfl⟩))));clear bz xz
  go_upto_region 27 with fail
  generalize w11=wn at *;exact c9bv):P:=h
theorem C9gz3 {P:Prop} (h:P:=by
 go_upto_region 27 with fail
 have bn:Blk w8 g7 128 (Hin.cs ⟨0,0,0,0,none,0,[]⟩):=BI;have xn:=EI;have HS:=lh (InOv.plain (N+1) cp w8 (op:=0) (x:=0) (y:=0) (n:=0) (by simp[I64]) (.inl ⟨rfl,rfl,rfl,rfl,rfl⟩));clear y0 y1 y2 y3 y4 f0 f1 f2 f3 f4 z0 z1 q0 hl7 hlq BI EI;generalize w8=wn at *;exact c9bv):P:=h
theorem xsome_V (w:World)(LA:Option Addr)(lc:Nat)(ls:List Int)(hl:IL w LA lc ls) :
 Calls Tryz.prog 35 #[.slice LA ls.length lc] w (RetSv w):=by
 obtain⟨iI,jI0,jI1,jI2,jI3⟩:=info_parts infoIn;have hll:=hl.len;have HL:=lh hl;have HP:=fun(i:Nat) (m:Int) (w':World) (x:Ext w w') (h0:1<=m) (h1:m<=4294967296) (hi:i<=9223372036854775807)=>lh (pick_any LA lc ls i m w' (hl.ext x) h0 h1 hi);clear hl;have BR:=Blk.new w 25 #[.slice none 0 0,.int .i64 0,.bool false];have ER:=Ext.alloc w (.cells #[.slice none 0 0,.int .i64 0,.bool false] 25);go_enter Tryz.func35,Tryz.ntmps35
 go_upto_region 1 with fail
 obtain⟨gr,hgr⟩:∃g,g=w.heap.size:=⟨_,rfl⟩
 rw[<-hgr] at BR ⊢;have hgrl:w.heap.size<=gr:=om;clear hgr;generalize w.alloc (.cells #[.slice none 0 0,.int .i64 0,.bool false] 25)=wa at *;have p0:=pick_bd ls 0 12 om;have p1:=pick_bd ls 1 3 om;have p2:=pick_bd ls 2 3 om;have HP0:∀w',Ext w w'->Hid (Calls Tryz.prog 102 #[.slice LA ls.length lc,.int .i64 0,.int .i64 12] w' (RetQ (.int .i64 (pick ls 0 12)) w')):=fun w' x=>lh (HP 0 12 w' x om om om).out;have HP1:∀w',Ext w w'->Hid (Calls Tryz.prog 102 #[.slice LA ls.length lc,.int .i64 1,.int .i64 3] w' (RetQ (.int .i64 (pick ls 1 3)) w')):=fun w' x=>lh (HP 1 3 w' x om om om).out;have HP2:∀w',Ext w w'->Hid (Calls Tryz.prog 102 #[.slice LA ls.length lc,.int .i64 2,.int .i64 3] w' (RetQ (.int .i64 (pick ls 2 3)) w')):=fun w' x=>lh (HP 2 3 w' x om om om).out;have HPH:=lh HP;clear HP;obtain⟨N,hN⟩:∃N:Nat,pick ls 0 12=N:=⟨(pick ls 0 12).toNat,om⟩;rw[hN] at HP0 p0;have ewn:IntKind.i64.wrap (1+(N:Int))=((N+1:Nat):Int):=wj;clear hN;generalize pick ls 1 3=cp at *;generalize pick ls 2 3=rr at *
 go_upto_region 2 with(go_at_call 102;refine(HP0 _ (by assumption)).out.mono ?_;rintro e w3 ⟨rfl,nq,rfl⟩)
 have x3:=ER.trans (Ext.drewN wa nq);have B3:=BR.ext (Ext.drewN wa nq);clear ER BR HP0;generalize wa.drewN nq=wb at *
 go_upto_region 3 with(first|(have hq:=x4;go_at_call 102;refine(HP2 _ x4).out.mono ?_;rintro e w5 hq5;obtain⟨rfl,y5⟩:=RetQ.v hq5;have x5:=x4.trans y5;have B5:=B4.ext y5)|(go_at_call 102;refine(HP1 _ x3).out.mono ?_;rintro e w4 hq4;obtain⟨rfl,y4⟩:=RetQ.v hq4;have x4:=x3.trans y4;have B4:=B3.ext y4))
 have BQ:=Blk.new w5 25 #[.slice none 0 0,.int .i64 cp,.bool (rr == 0)];have E5:=Ext.alloc w5 (.cells #[.slice none 0 0,.int .i64 cp,.bool (rr == 0)] 25);obtain⟨gq,hgq⟩:∃g,g=w5.heap.size:=⟨_,rfl⟩
 rw[<-hgq] at BQ ⊢;have hgql:w5.heap.size<=gq:=om;clear hgq;generalize w5.alloc (.cells #[.slice none 0 0,.int .i64 cp,.bool (rr == 0)] 25)=w6 at *;generalize (rr == 0)=rn at *;have HX5:=lh x5;have HB5:=lh B5;have HBQ:=lh BQ;clear HP1 HP2 x3 x4 y4 y5 B3 B4 x5 B5 BQ
 go_upto_region 4 with fail
 go_loopw [5] (fun v5 wr=>∃(i:Nat) (A:Option Addr) (c:Nat) (hs:List Hin),v5=.int .i64 i/\i<=N+1/\Hid (hs.length=i)/\Hid (CodeS (N+1) cp hs)/\Hid (Blk wr gq 25 #[.slice A hs.length c,.int .i64 cp,.bool rn])/\Hid (GpO w5 wr A c hs)/\Ext w5 wr) (fun v _=>N+1-(intOf v).toNat)
 case atStart=>exact⟨0,none,0,[],rfl,om,lh rfl,lh (CodeS.nil _ _),HBQ,lh (GpO.nil _ _),E5⟩
 case round=>
  clear E5 HBQ;obtain⟨i,A,c,hs,rfl,hi,HLN,HCS,HBG,HGO,x1⟩:=hrel;by_cases hlt:i<N+1
  ·have hiI:(i:Int)<(N:Int)+1:=om;have ewk:IntKind.i64.wrap (3+(i:Int))=3+(i:Int):=wj;have hpk:=pick_bd ls (3+i) 1048576 om;have HPK:Hid (Calls Tryz.prog 102 #[.slice LA ls.length lc,.int .i64 (3+(i:Int)),.int .i64 1048576] wr (RetQ (.int .i64 (pick ls (3+i) 1048576)) wr)):=lh (by
    have h:=(HPH.out (3+i) 1048576 wr (HX5.out.trans x1) om om om).out
    simpa[Int.natCast_add] using h)
   obtain⟨k,hk⟩:∃k:Nat,pick ls (3+i) 1048576=k:=⟨(pick ls (3+i) 1048576).toNat,om⟩;rw[hk] at HPK hpk;clear hk
   go_upto_region 7 with(go_at_call 102;refine HPK.out.mono ?_;rintro e w7 hq7;obtain⟨rfl,y7⟩:=RetQ.v hq7)
   clear HPK ewk;have BI:=Blk.new w7 128 #[.int .i64 0,.int .i64 0,.int .i64 0,.int .i64 0,.slice none 0 0];have EI:=Ext.alloc w7 (.cells #[.int .i64 0,.int .i64 0,.int .i64 0,.int .i64 0,.slice none 0 0] 128)
   go_upto_region 8 with fail
   obtain⟨g7,hg7⟩:∃g,g=w7.heap.size:=⟨_,rfl⟩
   rw[<-hg7] at BI ⊢;have hg7l:w7.heap.size<=g7:=om;clear hg7;generalize w7.alloc (.cells #[.int .i64 0,.int .i64 0,.int .i64 0,.int .i64 0,.slice none 0 0] 128)=w8 at *;obtain⟨y0,y1,y2,y3,y4⟩:w8.cell? ⟨g7,0,none⟩=some (.int .i64 0)/\w8.cell? ⟨g7,1,none⟩=some (.int .i64 0)/\w8.cell? ⟨g7,2,none⟩=some (.int .i64 0)/\w8.cell? ⟨g7,3,none⟩=some (.int .i64 0)/\w8.cell? ⟨g7,4,none⟩=some (.slice none 0 0):=⟨BI.cell 0,BI.cell 1,BI.cell 2,BI.cell 3,BI.cell 4⟩;obtain⟨f0,f1,f2,f3,f4⟩:=in_frz BI;have y78:=y7.trans EI;have HB8:=lh (HBG.out.ext y78);have z0:w8.cell? ⟨gq,0,none⟩=some (.slice A hs.length c):=HB8.out.cell 0;have z1:w8.cell? ⟨gq,1,none⟩=some (.int .i64 cp):=HB8.out.cell 1;have q0:=HB8.out.frz 0;have hl7:=BI.lt;have hlq:=HB8.out.lt;have hk8:k % 8=0\/k % 8=1\/k % 8=2\/k % 8=3\/k % 8=4\/k % 8=5\/k % 8=6\/k % 8=7:=om;have hnz:((N:Int)+1 == 0)=false:=by simp;omega
   have hnz2:¬((N:Int)+1=0):=om;rcases hk8 with r0|r0|r0|r0|r0|r0|r0|r0
   ·have r0I:((k:Int) % 8 == 0)=true:=by simp;omega
    exact C9gz1
   ·have r0I:((k:Int) % 8 == 0)=false:=by simp;omega
    have r1I:((k:Int) % 8 == 1)=true:=by simp;omega
    exact C9gz1
   ·have r0I:((k:Int) % 8 == 0)=false:=by simp;omega
    have r1I:((k:Int) % 8 == 1)=false:=by simp;omega
    have r2I:((k:Int) % 8 == 2)=true:=by simp;omega
    exact C9gz1
   ·have r0I:((k:Int) % 8 == 0)=false:=by simp;omega
    have r1I:((k:Int) % 8 == 1)=false:=by simp;omega
    have r2I:((k:Int) % 8 == 2)=false:=by simp;omega
    have r3I:((k:Int) % 8 == 3)=true:=by simp;omega
    have r4I:((k:Int) % 8 == 4)=false:=by simp;omega
    exact C9gz2
   ·have r0I:((k:Int) % 8 == 0)=false:=by simp;omega
    have r1I:((k:Int) % 8 == 1)=false:=by simp;omega
    have r2I:((k:Int) % 8 == 2)=false:=by simp;omega
    have r3I:((k:Int) % 8 == 3)=false:=by simp;omega
    have r4I:((k:Int) % 8 == 4)=true:=by simp;omega
    exact C9gz2
   ·have r0I:((k:Int) % 8 == 0)=false:=by simp;omega
    have r1I:((k:Int) % 8 == 1)=false:=by simp;omega
    have r2I:((k:Int) % 8 == 2)=false:=by simp;omega
    have r3I:((k:Int) % 8 == 3)=false:=by simp;omega
    have r4I:((k:Int) % 8 == 4)=false:=by simp;omega
    have r5I:((k:Int) % 8 == 5)=true:=by simp;omega
    have r6I:((k:Int) % 8 == 6)=false:=by simp;omega
    have hm1:0<=(k:Int) / 8 % ((N:Int)+1)/\(k:Int) / 8 % ((N:Int)+1)<(N:Int)+1:=⟨Int.emod_nonneg _ om,Int.emod_lt_of_pos _ om⟩;have hm2:0<=((i:Int)+1) % ((N:Int)+1)/\((i:Int)+1) % ((N:Int)+1)<(N:Int)+1:=⟨Int.emod_nonneg _ om,Int.emod_lt_of_pos _ om⟩
    go_upto_region 27 with fail
    have bz:=setIn_blk BI ⟨3,((k:Int) / 8 % ((N:Int)+1)),0,0,none,0,[]⟩;have xz:=setIn_ext EI hg7l ⟨3,((k:Int) / 8 % ((N:Int)+1)),0,0,none,0,[]⟩;change Code.wp _ _ _ _ (setIn w8 g7 ⟨3,((k:Int) / 8 % ((N:Int)+1)),0,0,none,0,[]⟩);clear y0 y1 y2 y3 y4 f0 f1 f2 f3 f4 z0 z1 q0 hl7 hlq BI EI;generalize setIn w8 g7 ⟨3,((k:Int) / 8 % ((N:Int)+1)),0,0,none,0,[]⟩=wn at *;have bn:=bz;have xn:=xz;have HS:=lh (InOv.plain (N+1) cp wn (op:=3) (x:=((k:Int) / 8 % ((N:Int)+1))) (y:=0) (n:=0) (by simp only[I64];omega) (.inr (.inr (.inr (.inl ⟨rfl,(show 0<=((k:Int) / 8 % ((N:Int)+1))/\((k:Int) / 8 % ((N:Int)+1))<((N+1:Nat):Int) by push_cast;omega),rfl,rfl,rfl⟩)))));clear bz xz;exact c9bv
   ·have r0I:((k:Int) % 8 == 0)=false:=by simp;omega
    have r1I:((k:Int) % 8 == 1)=false:=by simp;omega
    have r2I:((k:Int) % 8 == 2)=false:=by simp;omega
    have r3I:((k:Int) % 8 == 3)=false:=by simp;omega
    have r4I:((k:Int) % 8 == 4)=false:=by simp;omega
    have r5I:((k:Int) % 8 == 5)=false:=by simp;omega
    have r6I:((k:Int) % 8 == 6)=true:=by simp;omega
    by_cases hc0:0<cp
    ·have ew2:IntKind.i64.wrap (2*cp)=2*cp:=wj;have hz2:(2*cp == 0)=false:=by simp;omega
     have hz3:¬(2*cp=0):=om;have hm1:0<=(k:Int) / 8 % (2*cp)/\(k:Int) / 8 % (2*cp)<2*cp:=⟨Int.emod_nonneg _ om,Int.emod_lt_of_pos _ om⟩
     go_upto_region 27 with fail
     have bz:=setIn_blk BI ⟨4,0,0,((k:Int) / 8 % (2*cp)),none,0,[]⟩;have xz:=setIn_ext EI hg7l ⟨4,0,0,((k:Int) / 8 % (2*cp)),none,0,[]⟩;change Code.wp _ _ _ _ (setIn w8 g7 ⟨4,0,0,((k:Int) / 8 % (2*cp)),none,0,[]⟩);clear y0 y1 y2 y3 y4 f0 f1 f2 f3 f4 z0 z1 q0 hl7 hlq BI EI;generalize setIn w8 g7 ⟨4,0,0,((k:Int) / 8 % (2*cp)),none,0,[]⟩=wn at *;have bn:=bz;have xn:=xz;have HS:=lh (InOv.plain (N+1) cp wn (op:=4) (x:=0) (y:=0) (n:=((k:Int) / 8 % (2*cp))) (by simp only[I64];omega) (.inr (.inr (.inr (.inr (.inl ⟨rfl,rfl,rfl,(show 0<=((k:Int) / 8 % (2*cp))/\((k:Int) / 8 % (2*cp))+1<=2*cp by omega),rfl⟩))))));clear bz xz;exact c9av
    ·exact C9gz3
   ·have r0I:((k:Int) % 8 == 0)=false:=by simp;omega
    have r1I:((k:Int) % 8 == 1)=false:=by simp;omega
    have r2I:((k:Int) % 8 == 2)=false:=by simp;omega
    have r3I:((k:Int) % 8 == 3)=false:=by simp;omega
    have r4I:((k:Int) % 8 == 4)=false:=by simp;omega
    have r5I:((k:Int) % 8 == 5)=false:=by simp;omega
    have r6I:((k:Int) % 8 == 6)=false:=by simp;omega
    by_cases h3:0<(k:Int) / 8 % 3
    ·go_upto_region 27 with fail
     have bz:=setIn_blk BI ⟨5,0,0,((k:Int) / 8 % 6),none,0,[]⟩;have xz:=setIn_ext EI hg7l ⟨5,0,0,((k:Int) / 8 % 6),none,0,[]⟩;change Code.wp _ _ _ _ (setIn w8 g7 ⟨5,0,0,((k:Int) / 8 % 6),none,0,[]⟩);clear y0 y1 y2 y3 y4 f0 f1 f2 f3 f4 z0 z1 q0 hl7 hlq BI EI;generalize setIn w8 g7 ⟨5,0,0,((k:Int) / 8 % 6),none,0,[]⟩=wn at *;have bn:=bz;have xn:=xz;have HS:=lh (InOv.plain (N+1) cp wn (op:=5) (x:=0) (y:=0) (n:=((k:Int) / 8 % 6)) (by simp only[I64];omega) (.inr (.inr (.inr (.inr (.inr ⟨rfl,rfl,rfl,(show 0<=((k:Int) / 8 % 6)/\((k:Int) / 8 % 6)<=5 by omega),rfl⟩))))));clear bz xz;exact c9av
    ·exact C9gz3
  ·have hiI:¬(i:Int)<(N:Int)+1:=om;have BRr:=HB5.out.ext x1;have zz0:wr.cell? ⟨gq,0,none⟩=some (.slice A hs.length c):=HBG.out.cell 0;have zz1:wr.cell? ⟨gq,1,none⟩=some (.int .i64 cp):=HBG.out.cell 1;have zz2:wr.cell? ⟨gq,2,none⟩=some (.bool rn):=HBG.out.cell 2;obtain⟨y0,y1,y2,f0,f1,f2,_⟩:=BRr.c3
   go_wp2_with fail
   have b9:=setGp_blk BRr A hs.length c cp rn;have x9:=setGp_ext (HX5.out.trans x1) hgrl A hs.length c cp rn;have G9:=(HGO.out.kp (setGp_kpp (p:=(·=gr)) (KpP.refl _ wr) rfl A hs.length c cp rn) (fun b hb e=>by have e2:b=gr:=e;subst e2;exact own_blk HGO.out.own BRr de hb) (fun b cur hb=>blk_ne BRr de hb)).low HX5.out.size;change bodyPost _ _ _ _ _ (setGp wr gr A hs.length c cp rn);generalize setGp wr gr A hs.length c cp rn=w9 at *;obtain⟨r0,r1,r2,_⟩:=b9.c3;refine bodyPost_ret (v:=.agg #[.slice A hs.length c,.int .i64 cp,.bool rn]) (by simp[results,Tryz.results35,go_sem,r0,r1,r2]) rfl ⟨A,c,hs,cp,rn,rfl,G9,by have h:=HCS.out;have e:N+1=hs.length:=(by rw[HLN.out];omega);rw[e] at h;exact h,by rw[HLN.out];omega,by rw[HLN.out];omega,om,om,x9⟩
end
end Go.Proofs.YtmgpefenkilffaaGreat
