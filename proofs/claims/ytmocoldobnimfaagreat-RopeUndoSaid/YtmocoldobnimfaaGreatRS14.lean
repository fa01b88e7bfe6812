/- Texts of this proof: Sort G10 G11 M0 G13. -/
import Derived.Test.YtmocoldobnimfaaGreatRS12
import Derived.Shelf.SlSortCmp.WholeK
import Derived.Ground.SlsfProg
import Derived.Test.YtmocoldobnimfaaGreatProg
import Derived.Deep.DrawnRows
set_option linter.all false
set_option maxRecDepth 100000
set_option maxHeartbeats 8000000
namespace Go.Proofs
open Go.Shelf
def Tryz.sortEnd_ren:Go.Shelf.Ren:=⟨fun|6=>156|15=>159|14=>194|28=>203|29=>204|20=>216|21=>217|22=>218|23=>219|24=>220|25=>221|26=>222|27=>223|46=>230|47=>225|48=>226|49=>231|50=>232|57=>234|n=>n,fun|22=>201|24=>207|25=>267|3=>3|39=>270|0=>0|53=>302|55=>203|4=>4|46=>296|45=>295|50=>208|5=>5|9=>9|66=>316|70=>320|76=>324|77=>291|n=>n,fun|n=>n⟩
theorem Tryz.sortEnd:Go.Proofs.SlLaysF0.n6 Tryz.prog Tryz.sortEnd_ren:={
 mixed:=by kernel_rfl
 f6:=⟨Tryz.f156.name,by decide,Tryz.func156.trans (congrArg some (by kernel_rfl))⟩
 f14:=⟨Tryz.f194.name,by decide,Tryz.func194.trans (congrArg some (by kernel_rfl))⟩
 f15:=Tryz.func159.trans (congrArg some (by kernel_rfl))
 f20:=⟨Tryz.f216.name,by decide,Tryz.func216.trans (congrArg some (by kernel_rfl))⟩
 f21:=⟨Tryz.f217.name,by decide,Tryz.func217.trans (congrArg some (by kernel_rfl))⟩
 f22:=⟨Tryz.f218.name,by decide,Tryz.func218.trans (congrArg some (by kernel_rfl))⟩
 f23:=⟨Tryz.f219.name,by decide,Tryz.func219.trans (congrArg some (by kernel_rfl))⟩
 f24:=⟨Tryz.f220.name,by decide,Tryz.func220.trans (congrArg some (by kernel_rfl))⟩
 f25:=⟨Tryz.f221.name,by decide,Tryz.func221.trans (congrArg some (by kernel_rfl))⟩
 f26:=⟨Tryz.f222.name,by decide,Tryz.func222.trans (congrArg some (by kernel_rfl))⟩
 f27:=⟨Tryz.f223.name,by decide,Tryz.func223.trans (congrArg some (by kernel_rfl))⟩
 f28:=Tryz.func203.trans (congrArg some (by kernel_rfl))
 f29:=Tryz.func204.trans (congrArg some (by kernel_rfl))
 f46:=⟨Tryz.f230.name,by decide,Tryz.func230.trans (congrArg some (by kernel_rfl))⟩
 f47:=Tryz.func225.trans (congrArg some (by kernel_rfl))
 f48:=Tryz.func226.trans (congrArg some (by kernel_rfl))
 f49:=⟨Tryz.f231.name,by decide,Tryz.func231.trans (congrArg some (by kernel_rfl))⟩
 f50:=⟨Tryz.f232.name,by decide,Tryz.func232.trans (congrArg some (by kernel_rfl))⟩
 f57:=⟨Tryz.f234.name,by decide,Tryz.func234.trans (congrArg some (by kernel_rfl))⟩
 t0:=Tryz.underlying0
 a0:=Tryz.isAgg0
 z0:=Tryz.sizeOf0
 v0:=Tryz.zeroValue0
 t3:=Tryz.underlying3
 a3:=Tryz.isAgg3
 z3:=Tryz.sizeOf3
 v3:=Tryz.zeroValue3
 t4:=Tryz.underlying4
 a4:=Tryz.isAgg4
 z4:=Tryz.sizeOf4
 v4:=Tryz.zeroValue4
 t5:=Tryz.underlying5
 a5:=Tryz.isAgg5
 z5:=Tryz.sizeOf5
 v5:=Tryz.zeroValue5
 t9:=Tryz.underlying9
 a9:=Tryz.isAgg9
 z9:=Tryz.sizeOf9
 v9:=Tryz.zeroValue9
 t22:=Tryz.underlying201
 a22:=Tryz.isAgg201
 z22:=Tryz.sizeOf201
 v22:=Tryz.zeroValue201
 t25:=Tryz.underlying267
 a25:=Tryz.isAgg267
 z25:=Tryz.sizeOf267
 v25:=Tryz.zeroValue267
 t39:=Tryz.underlying270
 a39:=Tryz.isAgg270
 z39:=Tryz.sizeOf270
 v39:=Tryz.zeroValue270
 t45:=Tryz.underlying295
 a45:=Tryz.isAgg295
 z45:=Tryz.sizeOf295
 v45:=Tryz.zeroValue295
 t46:=Tryz.underlying296
 a46:=Tryz.isAgg296
 z46:=Tryz.sizeOf296
 v46:=Tryz.zeroValue296
 t50:=Tryz.underlying208
 a50:=Tryz.isAgg208
 z50:=Tryz.sizeOf208
 v50:=Tryz.zeroValue208
 t53:=Tryz.underlying302
 a53:=Tryz.isAgg302
 z53:=Tryz.sizeOf302
 v53:=Tryz.zeroValue302
 t55:=Tryz.underlying203
 a55:=Tryz.isAgg203
 z55:=Tryz.sizeOf203
 v55:=Tryz.zeroValue203
 t66:=Tryz.underlying316
 a66:=Tryz.isAgg316
 z66:=Tryz.sizeOf316
 v66:=Tryz.zeroValue316
 t70:=Tryz.underlying320
 a70:=Tryz.isAgg320
 z70:=Tryz.sizeOf320
 v70:=Tryz.zeroValue320
 t76:=Tryz.underlying324
 a76:=Tryz.isAgg324
 z76:=Tryz.sizeOf324
 v76:=Tryz.zeroValue324
 t77:=Tryz.underlying291
 a77:=Tryz.isAgg291
 z77:=Tryz.sizeOf291
 v77:=Tryz.zeroValue291 }
def Tryz.sortStretch_ren:Go.Shelf.Ren:=⟨fun|6=>117|15=>159|14=>158|28=>203|29=>204|20=>195|21=>196|22=>197|23=>198|24=>199|25=>200|26=>201|27=>202|46=>224|47=>225|48=>226|49=>227|50=>228|57=>233|n=>n,fun|22=>132|24=>211|25=>213|3=>3|39=>270|0=>0|53=>302|55=>203|4=>4|46=>296|45=>295|50=>208|5=>5|9=>9|66=>316|70=>320|76=>324|77=>291|n=>n,fun|n=>n⟩
theorem Tryz.sortStretch:Go.Proofs.SlLaysF0.n6 Tryz.prog Tryz.sortStretch_ren:={
 mixed:=by kernel_rfl
 f6:=⟨Tryz.f117.name,by decide,Tryz.func117.trans (congrArg some (by kernel_rfl))⟩
 f14:=⟨Tryz.f158.name,by decide,Tryz.func158.trans (congrArg some (by kernel_rfl))⟩
 f15:=Tryz.func159.trans (congrArg some (by kernel_rfl))
 f20:=⟨Tryz.f195.name,by decide,Tryz.func195.trans (congrArg some (by kernel_rfl))⟩
 f21:=⟨Tryz.f196.name,by decide,Tryz.func196.trans (congrArg some (by kernel_rfl))⟩
 f22:=⟨Tryz.f197.name,by decide,Tryz.func197.trans (congrArg some (by kernel_rfl))⟩
 f23:=⟨Tryz.f198.name,by decide,Tryz.func198.trans (congrArg some (by kernel_rfl))⟩
 f24:=⟨Tryz.f199.name,by decide,Tryz.func199.trans (congrArg some (by kernel_rfl))⟩
 f25:=⟨Tryz.f200.name,by decide,Tryz.func200.trans (congrArg some (by kernel_rfl))⟩
 f26:=⟨Tryz.f201.name,by decide,Tryz.func201.trans (congrArg some (by kernel_rfl))⟩
 f27:=⟨Tryz.f202.name,by decide,Tryz.func202.trans (congrArg some (by kernel_rfl))⟩
 f28:=Tryz.func203.trans (congrArg some (by kernel_rfl))
 f29:=Tryz.func204.trans (congrArg some (by kernel_rfl))
 f46:=⟨Tryz.f224.name,by decide,Tryz.func224.trans (congrArg some (by kernel_rfl))⟩
 f47:=Tryz.func225.trans (congrArg some (by kernel_rfl))
 f48:=Tryz.func226.trans (congrArg some (by kernel_rfl))
 f49:=⟨Tryz.f227.name,by decide,Tryz.func227.trans (congrArg some (by kernel_rfl))⟩
 f50:=⟨Tryz.f228.name,by decide,Tryz.func228.trans (congrArg some (by kernel_rfl))⟩
 f57:=⟨Tryz.f233.name,by decide,Tryz.func233.trans (congrArg some (by kernel_rfl))⟩
 t0:=Tryz.underlying0
 a0:=Tryz.isAgg0
 z0:=Tryz.sizeOf0
 v0:=Tryz.zeroValue0
 t3:=Tryz.underlying3
 a3:=Tryz.isAgg3
 z3:=Tryz.sizeOf3
 v3:=Tryz.zeroValue3
 t4:=Tryz.underlying4
 a4:=Tryz.isAgg4
 z4:=Tryz.sizeOf4
 v4:=Tryz.zeroValue4
 t5:=Tryz.underlying5
 a5:=Tryz.isAgg5
 z5:=Tryz.sizeOf5
 v5:=Tryz.zeroValue5
 t9:=Tryz.underlying9
 a9:=Tryz.isAgg9
 z9:=Tryz.sizeOf9
 v9:=Tryz.zeroValue9
 t22:=Tryz.underlying132
 a22:=Tryz.isAgg132
 z22:=Tryz.sizeOf132
 v22:=Tryz.zeroValue132
 t25:=Tryz.underlying213
 a25:=Tryz.isAgg213
 z25:=Tryz.sizeOf213
 v25:=Tryz.zeroValue213
 t39:=Tryz.underlying270
 a39:=Tryz.isAgg270
 z39:=Tryz.sizeOf270
 v39:=Tryz.zeroValue270
 t45:=Tryz.underlying295
 a45:=Tryz.isAgg295
 z45:=Tryz.sizeOf295
 v45:=Tryz.zeroValue295
 t46:=Tryz.underlying296
 a46:=Tryz.isAgg296
 z46:=Tryz.sizeOf296
 v46:=Tryz.zeroValue296
 t50:=Tryz.underlying208
 a50:=Tryz.isAgg208
 z50:=Tryz.sizeOf208
 v50:=Tryz.zeroValue208
 t53:=Tryz.underlying302
 a53:=Tryz.isAgg302
 z53:=Tryz.sizeOf302
 v53:=Tryz.zeroValue302
 t55:=Tryz.underlying203
 a55:=Tryz.isAgg203
 z55:=Tryz.sizeOf203
 v55:=Tryz.zeroValue203
 t66:=Tryz.underlying316
 a66:=Tryz.isAgg316
 z66:=Tryz.sizeOf316
 v66:=Tryz.zeroValue316
 t70:=Tryz.underlying320
 a70:=Tryz.isAgg320
 z70:=Tryz.sizeOf320
 v70:=Tryz.zeroValue320
 t76:=Tryz.underlying324
 a76:=Tryz.isAgg324
 z76:=Tryz.sizeOf324
 v76:=Tryz.zeroValue324
 t77:=Tryz.underlying291
 a77:=Tryz.isAgg291
 z77:=Tryz.sizeOf291
 v77:=Tryz.zeroValue291 }
end Go.Proofs
namespace Go.Proofs.YtmocoldobnimfaaGreat
section
open Go.RowKit
abbrev GS:={ s:Sp // goodS s }
instance:Inhabited GS:=⟨⟨(0,0),by unfold goodS;omega⟩⟩
def RetCl (l:List Sp)(w:World)(e:Ending)(w':World):Prop:=∃(A':Option Addr) (c':Nat),e=.returned (.slice A' l.length c')/\OwnP w' w.heap.size A' c' l/\Ext w w'
theorem cloneS_any (A:Option Addr)(c:Nat)(l:List Sp)(w:World)(hl:SL w A c l)(hb:l.length<=1000000) :
 Calls Tryz.prog 183 #[.slice A l.length c] w (RetCl l w):=by
 obtain⟨iS,jS0,jS1,jS2,jS3⟩:=info_parts infoS
 cases A with
 | none=>
  have hl0:l=[]:=by
   rcases l with _|⟨x,l⟩
   ·rfl
   ·obtain⟨b,o,h,_⟩:=hl.at_ si;cases h
  subst hl0;have hn:=fun wx=>Lib.run_eql_slice_nil (P:=Tryz.prog) wx 23 38 none 0 c 0 0 Tryz.underlying23;go_enter Tryz.func183,Tryz.ntmps183
  go_wp2
  go_ret
  exact⟨none,0,rfl,OwnP.nil _ _,Ext.rfl' _⟩
 | some ad=>
  have hn:=fun wx=>Lib.run_eql_slice_nil (P:=Tryz.prog) wx 23 38 (some ad) l.length c 0 0 Tryz.underlying23;simp only[Option.isNone_some] at hn;have hm:=hl.len;have hown:OwnS (w.alloc (.cells #[] 38)) w.heap.size 38 2 (some ⟨w.heap.size,0,none⟩) 0 0 []:=
   OwnS.of_blk (Blk.new w 38 #[]) (Nat.le_refl _) rfl (Nat.le_refl _) (Nat.zero_le _)
  have hcl:=(hl.ext (Ext.alloc w (.cells #[] 38))).cells;have h1:=flatS_one l;have HFL:=lh (flatS_len l);have H63:=lh (show 0+l.length<=maxLen by unfold maxLen;omega);have H8:=lh (show(0+l.length)*16<=140737488355328 by omega);clear hb;go_enter Tryz.func183,Tryz.ntmps183
  go_wp2_with ((at_builtin;refine wpList_app _ rfl _ _ _ rfl w.heap.size 38 iS _ 2 16 Tryz.underlying23 jS0 jS1 jS2 jS3 rfl om _ 0 0 [] rfl hown _ l.length c (flatS l) rfl HFL.out hcl h1 H63.out H8.out si ?_;intro A' c' w' hown' hg hat))
  go_ret
  simp only[List.nil_append,Nat.zero_add] at hown';have hE:Ext w w':=(Ext.alloc w (.cells #[] 38)).grown hg si;exact⟨A',c',by simp,hown',hE⟩
theorem addS_good {l:List Sp}{s:Sp}(h:∀t∈l,goodS t)(hs:goodS s):∀t∈addS l s,goodS t:=by
 rcases List.eq_nil_or_concat l with rfl|⟨l0,u,rfl⟩
 ·rw[addS_nil];simpa using hs
 ·rw[List.concat_eq_append] at *;rw[addS_snoc];intro t ht
  split at ht
  ·rcases List.mem_append.1 ht with ht|ht
   ·exact h t (by simp[ht])
   ·obtain rfl:=List.mem_singleton.1 ht;have:=h u si;unfold goodS at *
    simp only
    omega
  ·rcases List.mem_append.1 ht with ht|ht
   ·exact h t ht
   ·obtain rfl:=List.mem_singleton.1 ht;exact hs
theorem addAll_good:∀{b l:List Sp},(∀t∈l,goodS t)->(∀t∈b,goodS t)->∀t∈b.foldl addS l,goodS t
 | [],_,h,_=>h
 | s::b,_,h,hb=>addAll_good (b:=b) (addS_good h (hb s si)) (fun t ht=>hb t (by simp[ht]))
theorem addAll_len:∀(b l:List Sp),(b.foldl addS l).length<=l.length+b.length
 | [],l=>by simp
 | s::b,l=>by
  have h1:=addAll_len b (addS l s);have h2:=(addS_len l s).2;rw[List.foldl_cons,List.length_cons];omega
end
section
open Go.RowKit
attribute [local go_sem ↓] Go.wp_at_zero Go.wp_at_succ
def NdP (w:World)(b o:Nat)(n:Nd):Prop:=∀i (h:i<n.cs.length),w.cell? ⟨b,o+i,none⟩=some n.cs[i]
theorem NdP.ext {w w':World}{b o:Nat}{n:Nd}(h:NdP w b o n)(x:Ext w w'):NdP w' b o n:=fun i hi=>x.cell (h i hi)
theorem topH_any (w:World):Calls Tryz.prog 173 #[.bool false] w (RetV (.int .i64 255) w):=by
 go_enter Tryz.func173,Tryz.ntmps173
 go_wp2
 go_ret
 exact⟨rfl,Ext.rfl' _⟩
theorem spans1_any (w:World)(sb:Nat)(x:Int)(hx:0<=x/\x<=255)(hb:Blk w sb 38 #[.int .i64 x,.int .i64 x]):Calls Tryz.prog 206 #[.slice (some ⟨sb,0,none⟩) 1 1,.int .i64 255] w (RetV (.bool true) w):=by
 obtain⟨c0,c1,_⟩:=hb.c2;go_enter Tryz.func206,Tryz.ntmps206
 go_upto_region 4 with fail
 go_loopw [12] (fun v wr=>∃i:Nat,v=.int .i64 i/\i<=1/\Ext w wr) (fun v _=>1-(intOf v).toNat)
 case atStart=>exact⟨0,rfl,om,Ext.rfl' _⟩
 case round=>
  obtain⟨i,rfl,hi,x1⟩:=hrel;rcases Nat.eq_zero_or_pos i with h0|h0
  ·subst h0;replace c0:=x1.cell c0;replace c1:=x1.cell c1
   go_upto_region 6 with fail
   have XN:=x1.trans (Ext.alloc wr (.cells #[.int .i64 x,.int .i64 x] 38));have BN:=Blk.new wr 38 #[.int .i64 x,.int .i64 x];obtain⟨g,hg⟩:∃g,g=wr.heap.size:=⟨_,rfl⟩
   rw[<-hg] at BN ⊢;clear hg;generalize wr.alloc (.cells #[.int .i64 x,.int .i64 x] 38)=w5 at *;obtain⟨e0,e1,_⟩:=BN.c2;have d0:=kc0 e0;have d1:=kc0 e1;have HXN:=lh XN;have h1:¬x<0:=om;have h2:¬x>255:=om;have h3:¬(255:Int)<x:=om;clear XN BN c0 c1 x1 e0 e1;refine Xr.start [] kr ?_;refine Xtk 0 ?_
   iterate 3(refine Xtn ?_)
   iterate 5(first|refine Xtn ?_|refine Xsn ?_)
   iterate 2(refine Xtn ?_)
   iterate 4(first|refine Xtn ?_|refine Xsn ?_)
   iterate 2(refine Xtn ?_)
   iterate 14(first|refine Xtn ?_|refine Xsn ?_)
   refine Xtn ?_;refine Xdn fun w6 hE6 hK6=>?_;have HX6:=HXN.out.trans hK6.nil;clear d0 d1
   go_wp2_with fail
   go_roundw
   case rel=>exact⟨1,by go_num,om,HX6⟩
   case measure=>simp[intOf]
  ·obtain rfl:i=1:=om
   go_wp2_with fail
   go_ret
   exact⟨rfl,x1⟩
def ndS (sb:Nat)(x:Int):Nd:=⟨1,some ⟨sb,0,none⟩,1,[(x,x)],none,0,[],0,0,0,0,false⟩
theorem formedS_any (w:World)(b o sb:Nat)(x cp:Int)(hx:0<=x/\x<=255)(hn:NdP w b o (ndS sb x))(hb:Blk w sb 38 #[.int .i64 x,.int .i64 x]):Calls Tryz.prog 175 #[.pointer (some ⟨b,o,none⟩),.int .i64 cp,.int .i64 255] w (RetV (.bool true) w):=by
 have c0:w.cell? ⟨b,o,none⟩=some (.int .i64 1):=hn 0 (by simp[Nd.cs,ndS]);have c1:w.cell? ⟨b,o+1,none⟩=some (.slice (some ⟨sb,0,none⟩) 1 1):=hn 1 (by simp[Nd.cs,ndS]);have c2:w.cell? ⟨b,o+2,none⟩=some (.slice none 0 0):=hn 2 (by simp[Nd.cs,ndS]);have c3:w.cell? ⟨b,o+3,none⟩=some (.int .i64 0):=hn 3 (by simp[Nd.cs,ndS]);have c4:w.cell? ⟨b,o+4,none⟩=some (.int .i64 0):=hn 4 (by simp[Nd.cs,ndS]);have c5:w.cell? ⟨b,o+5,none⟩=some (.int .i64 0):=hn 5 (by simp[Nd.cs,ndS]);have c6:w.cell? ⟨b,o+6,none⟩=some (.int .i64 0):=hn 6 (by simp[Nd.cs,ndS]);have c7:w.cell? ⟨b,o+7,none⟩=some (.bool false):=hn 7 (by simp[Nd.cs,ndS]);have HS:=fun(w':World) (x':Ext w w')=>lh (spans1_any w' sb x hx (hb.ext x'));clear hn hb;go_enter Tryz.func175,Tryz.ntmps175
 go_upto_region 4 with fail
 have XN:=Ext.alloc w (.cells #[.int .i64 1,.slice (some ⟨sb,0,none⟩) 1 1,.slice none 0 0,.int .i64 0,.int .i64 0,.int .i64 0,.int .i64 0,.bool false] 26);have BN:=Blk.new w 26 #[.int .i64 1,.slice (some ⟨sb,0,none⟩) 1 1,.slice none 0 0,.int .i64 0,.int .i64 0,.int .i64 0,.int .i64 0,.bool false];obtain⟨g,hg⟩:∃g,g=w.heap.size:=⟨_,rfl⟩
 rw[<-hg] at BN ⊢;have HG:Hid (w.heap.size<=g):=lh om;clear hg;generalize w.alloc (.cells #[.int .i64 1,.slice (some ⟨sb,0,none⟩) 1 1,.slice none 0 0,.int .i64 0,.int .i64 0,.int .i64 0,.int .i64 0,.bool false] 26)=w1 at *;have f2:=BN.frz 2;have z2:w1.cell? ⟨g,2,none⟩=some (.slice none 0 0):=BN.cell 2;have X1:=lh (XN.setNew (p:=⟨g,2,none⟩) HG.out (.slice none 0 0));have B1:Blk (w1.setCell ⟨g,2,none⟩ (.slice none 0 0)) g 26 #[.int .i64 1,.slice (some ⟨sb,0,none⟩) 1 1,.slice none 0 0,.int .i64 0,.int .i64 0,.int .i64 0,.int .i64 0,.bool false]:=Blk.set BN 2 (.slice none 0 0);have d0:=XN.cell c0;replace c0:=X1.out.cell c0;replace c1:=X1.out.cell c1
 go_upto_region 5 with fail
 generalize w1.setCell ⟨g,2,none⟩ (.slice none 0 0)=w2 at *;clear f2 z2 d0 c2 c3 c4 c5 c6 c7 XN BN
 go_upto_region 11 with(go_at_call 206;refine(HS w2 X1.out).out.mono ?_;rintro e w3 ⟨rfl,x3⟩)
 have B3:=B1.ext x3;have f1:=B3.frz 1;have z1:w3.cell? ⟨g,1,none⟩=some (.slice (some ⟨sb,0,none⟩) 1 1):=B3.cell 1;have X3:=lh ((X1.out.trans x3).setNew (p:=⟨g,1,none⟩) HG.out (.slice none 0 0));have B4:Blk (w3.setCell ⟨g,1,none⟩ (.slice none 0 0)) g 26 #[.int .i64 1,.slice none 0 0,.slice none 0 0,.int .i64 0,.int .i64 0,.int .i64 0,.int .i64 0,.bool false]:=Blk.set B3 1 (.slice none 0 0);clear c0 c1 B1 x3 HS B3
 go_upto_region 36 with fail
 generalize w3.setCell ⟨g,1,none⟩ (.slice none 0 0)=w4 at *;have y1:w4.cell? ⟨g,1,none⟩=some (.slice none 0 0):=B4.cell 1;have y3:w4.cell? ⟨g,3,none⟩=some (.int .i64 0):=B4.cell 3;have y4:w4.cell? ⟨g,4,none⟩=some (.int .i64 0):=B4.cell 4;have y5:w4.cell? ⟨g,5,none⟩=some (.int .i64 0):=B4.cell 5;have y6:w4.cell? ⟨g,6,none⟩=some (.int .i64 0):=B4.cell 6;have y7:w4.cell? ⟨g,7,none⟩=some (.bool false):=B4.cell 7;clear f1 z1 B4
 go_wp2_with fail
 go_ret
 exact⟨rfl,X3.out⟩
def ndC (kb:Nat)(u v:Value):Nd:=⟨2,none,0,[],some ⟨kb,0,none⟩,2,[u,v],0,0,0,0,false⟩
theorem formedC_any (w:World)(b o kb:Nat)(u v:Value)(cp:Int)(hn:NdP w b o (ndC kb u v)):Calls Tryz.prog 175 #[.pointer (some ⟨b,o,none⟩),.int .i64 cp,.int .i64 255] w (RetV (.bool true) w):=by
 have c0:w.cell? ⟨b,o,none⟩=some (.int .i64 2):=hn 0 (by simp[Nd.cs,ndC]);have c1:w.cell? ⟨b,o+1,none⟩=some (.slice none 0 0):=hn 1 (by simp[Nd.cs,ndC]);have c2:w.cell? ⟨b,o+2,none⟩=some (.slice (some ⟨kb,0,none⟩) 2 2):=hn 2 (by simp[Nd.cs,ndC]);have c3:w.cell? ⟨b,o+3,none⟩=some (.int .i64 0):=hn 3 (by simp[Nd.cs,ndC]);have c4:w.cell? ⟨b,o+4,none⟩=some (.int .i64 0):=hn 4 (by simp[Nd.cs,ndC]);have c5:w.cell? ⟨b,o+5,none⟩=some (.int .i64 0):=hn 5 (by simp[Nd.cs,ndC]);have c6:w.cell? ⟨b,o+6,none⟩=some (.int .i64 0):=hn 6 (by simp[Nd.cs,ndC]);have c7:w.cell? ⟨b,o+7,none⟩=some (.bool false):=hn 7 (by simp[Nd.cs,ndC]);clear hn;go_enter Tryz.func175,Tryz.ntmps175
 go_upto_region 4 with fail
 have XN:=Ext.alloc w (.cells #[.int .i64 2,.slice none 0 0,.slice (some ⟨kb,0,none⟩) 2 2,.int .i64 0,.int .i64 0,.int .i64 0,.int .i64 0,.bool false] 26);have BN:=Blk.new w 26 #[.int .i64 2,.slice none 0 0,.slice (some ⟨kb,0,none⟩) 2 2,.int .i64 0,.int .i64 0,.int .i64 0,.int .i64 0,.bool false];obtain⟨g,hg⟩:∃g,g=w.heap.size:=⟨_,rfl⟩
 rw[<-hg] at BN ⊢;have HG:Hid (w.heap.size<=g):=lh om;clear hg;generalize w.alloc (.cells #[.int .i64 2,.slice none 0 0,.slice (some ⟨kb,0,none⟩) 2 2,.int .i64 0,.int .i64 0,.int .i64 0,.int .i64 0,.bool false] 26)=w1 at *;have f2:=BN.frz 2;have z2:w1.cell? ⟨g,2,none⟩=some (.slice (some ⟨kb,0,none⟩) 2 2):=BN.cell 2;have X1:=lh (XN.setNew (p:=⟨g,2,none⟩) HG.out (.slice none 0 0));have B1:Blk (w1.setCell ⟨g,2,none⟩ (.slice none 0 0)) g 26 #[.int .i64 2,.slice none 0 0,.slice none 0 0,.int .i64 0,.int .i64 0,.int .i64 0,.int .i64 0,.bool false]:=Blk.set BN 2 (.slice none 0 0);have d0:=XN.cell c0;replace c0:=X1.out.cell c0
 go_upto_region 5 with fail
 generalize w1.setCell ⟨g,2,none⟩ (.slice none 0 0)=w4 at *;clear f2 z2 d0 c1 c2 c3 c4 c5 c6 c7 XN BN;have y1:w4.cell? ⟨g,1,none⟩=some (.slice none 0 0):=B1.cell 1;have y3:w4.cell? ⟨g,3,none⟩=some (.int .i64 0):=B1.cell 3;have y4:w4.cell? ⟨g,4,none⟩=some (.int .i64 0):=B1.cell 4;have y5:w4.cell? ⟨g,5,none⟩=some (.int .i64 0):=B1.cell 5;have y6:w4.cell? ⟨g,6,none⟩=some (.int .i64 0):=B1.cell 6;have y7:w4.cell? ⟨g,7,none⟩=some (.bool false):=B1.cell 7;clear B1
 go_wp2_with fail
 go_ret
 exact⟨rfl,X1.out⟩
end
section
open Go.RowKit
theorem flat_part {ls:List Hs}{i k:Nat}:(((ls.take i).map (·.l)).flatten++((ls[i]?.map (·.l)).getD []).take k).length<=((ls.map (·.l)).flatten).length:=by
 rcases Nat.lt_or_ge i ls.length with hi|hi
 ·rw[List.getElem?_eq_getElem hi];have e:ls=ls.take i++ls[i]::ls.drop (i+1):=by
   conv=>lhs;rw[<-List.take_append_drop i ls,List.drop_eq_getElem_cons hi]
  have e2:((ls.map (·.l)).flatten).length=((ls.take i).map (·.l)).flatten.length+(ls[i].l.length+((ls.drop (i+1)).map (·.l)).flatten.length):=by
   conv=>lhs;rw[e]
   rw[List.map_append,List.flatten_append,List.length_append,List.map_cons,List.flatten_cons,List.length_append]
  rw[List.length_append,e2];simp only[Option.map_some,Option.getD_some,List.length_take];omega
 ·rw[List.getElem?_eq_none hi,List.take_of_length_le hi]
  simp
theorem okL_canon {l:List Sp}(h:OkL l):Canon l/\∀s∈l,goodS s:=by
 have hg:∀i (hi:i<l.length),goodS l[i]:=fun i hi=>(h i hi hi).1;have hadj:∀i (hi:i+1<l.length),l[i].2+2<=l[i+1].1:=fun i hi=>by
  have:=(h (i+1) hi hi).2 om;simp only[Nat.add_sub_cancel] at this
  rwa [List.getD_eq_getElem?_getD,List.getElem?_eq_getElem om] at this
 have hall:∀d i (hi:i+d+1<l.length),l[i].2+2<=(l[i+d+1]'hi).1:=by
  intro d;induction d with
  | zero=>exact fun i hi=>hadj i hi
  | succ d ih=>
   intro i hi;have h1:=ih i om;have h2:=hg (i+d+1) om;have h3:=hadj (i+d+1) om;unfold goodS at h2;have e:i+(d+1)+1=i+d+1+1:=om;simp only[e];omega
 refine⟨⟨fun s hs=>?_,List.pairwise_iff_getElem.2 (fun i j hi hj hij=>?_)⟩,fun s hs=>?_⟩
 ·obtain⟨i,hi,rfl⟩:=List.getElem_of_mem hs;exact(hg i hi).2.1
 ·obtain⟨d,rfl⟩:∃d,j=i+d+1:=⟨j-i-1,om⟩;exact hall d i hj
 ·obtain⟨i,hi,rfl⟩:=List.getElem_of_mem hs;exact hg i hi
end
end Go.Proofs.YtmocoldobnimfaaGreat
