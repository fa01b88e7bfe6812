/- Texts of this proof: Y23 UF. -/
import Derived.Test.YtmgpefenkilffaaGreatSW38
set_option linter.all false
set_option maxRecDepth 100000
set_option maxHeartbeats 16000000
namespace Go.Proofs.YtmgpefenkilffaaGreat
section
open Go.RowKit
attribute [local go_sem ↓] Go.wp_at_zero Go.wp_at_succ
theorem Y23z1 {P:Prop} (h:P:=by
 have j0:=kc0 k0;have j1:=kc0 k1;have j2:=kc0 k2;have j3:=kc0 k3;have j4:=kc0 k4;have ju0:=kc0 u0;have ju1:=kc0 u1;have ju2:=kc0 u2
 go_upto_region 24 with fail
 refine Xr.start [] kr ?_;refine Xtk 0 ?_;refine Xtn ?_
 iterate 13(first|refine Xtn ?_|refine Xsn ?_)
 iterate 2(refine Xtn ?_)
 iterate 15(first|refine Xtn ?_|refine Xsn ?_)
 iterate 2(refine Xtn ?_)
 refine Xdn fun w9 hE9 hK9=>?_;clear j0 j1 j2 j3 j4 ju0 ju1 ju2
 go_wp2_with fail
 go_ret
 exact⟨by rw[<-HRES.out];rfl,X3.trans hE9⟩):P:=h
theorem pv3_any (gA:Option Addr)(n gc:Nat)(hn:n<=gc/\gc<=9223372036854775807)(runes:Bool)(caps:Int)(hcaps:0<=caps/\caps<=9)(zx zy zn:Int)(A:Option Addr)(c:Nat)(zl:List Sp)(w:World)(hL:SL w A c zl)(pb q:Nat)
 (c0:w.cell? ⟨pb,q,none⟩=some (.int .i64 3)) (c1:w.cell? ⟨pb,q+1,none⟩=some (.int .i64 zx)) (c2:w.cell? ⟨pb,q+2,none⟩=some (.int .i64 zy)) (c3:w.cell? ⟨pb,q+3,none⟩=some (.int .i64 zn)) (c4:w.cell? ⟨pb,q+4,none⟩=some (.slice A zl.length c)) :
 Calls Tryz.prog 165 #[.agg #[.slice gA n gc,.int .i64 caps,.bool runes],.pointer (some ⟨pb,q,none⟩)] w (RetV (.bool (okB runes caps n ⟨3,zx,zy,zn,zl⟩)) w):=by
 have hlen:=hL.len;have BG0:=Blk.new w 35 #[.slice gA n gc,.int .i64 caps,.bool runes];have EG0:=Ext.alloc w (.cells #[.slice gA n gc,.int .i64 caps,.bool runes] 35);have BU:=Blk.new (w.alloc (.cells #[.slice gA n gc,.int .i64 caps,.bool runes] 35)) 350 #[.int .i64 0,.int .i64 0,.int .i64 0];have EU:=Ext.alloc (w.alloc (.cells #[.slice gA n gc,.int .i64 caps,.bool runes] 35)) (.cells #[.int .i64 0,.int .i64 0,.int .i64 0] 350);have BG:=BG0.ext EU;have X1:=EG0.trans EU;rw[World.size_alloc] at BU;obtain⟨res,hres⟩:∃res,Hid (okB runes caps n ⟨3,zx,zy,zn,zl⟩=res):=⟨_,lh rfl⟩;rw[hres.out];have eg:=egTarget;have HQ:=fun(a b c d e f:Int) (W:World)=>eqNum a b c d e f W;go_enter Tryz.func165,Tryz.ntmps165
 go_upto_region 4 with fail
 obtain⟨gx,hgx⟩:∃gx,gx=w.heap.size:=⟨_,rfl⟩
 rw[<-hgx] at BG BU ⊢;clear BG0;generalize (w.alloc (.cells #[.slice gA n gc,.int .i64 caps,.bool runes] 35)).alloc (.cells #[.int .i64 0,.int .i64 0,.int .i64 0] 350)=w1 at *;have hpg:pb<gx:=by have:=World.block_lt_of_cell? _ _ c0;simp only at this;omega
 have hgw:w.heap.size<=gx:=om;clear EG0 EU hgx;have k0:=X1.cell c0;have k1:=X1.cell c1;have k2:=X1.cell c2;have k3:=X1.cell c3;have k4:=X1.cell c4;have g0:w1.cell? ⟨gx,0,none⟩=some (.slice gA n gc):=BG.cell 0;have g1:w1.cell? ⟨gx,1,none⟩=some (.int .i64 caps):=BG.cell 1;have g2:w1.cell? ⟨gx,2,none⟩=some (.bool runes):=BG.cell 2;have u0:w1.cell? ⟨gx+1,0,none⟩=some (.int .i64 0):=BU.cell 0;have u1:w1.cell? ⟨gx+1,1,none⟩=some (.int .i64 0):=BU.cell 1;have u2:w1.cell? ⟨gx+1,2,none⟩=some (.int .i64 0):=BU.cell 2;clear c0 c1 c2 c3 c4;by_cases ht:0<=zx/\zx<n
 ·skip
  have HT:=lh (show Calls Tryz.prog 222 #[.int .i64 zx,.pointer (some ⟨gx,0,none⟩)] w1 (RetV (.bool true) w1) by
   have h9:=target_any w1 gx gA n gc hn g0 zx;rw[decide_eq_true ht] at h9;exact h9)
  go_upto_region 16 with fail
  go_upto_region 17 with(go_at_fn 222;refine HT.out.mono ?_;rintro e w2 ⟨rfl,x2⟩)
  replace k0:=x2.cell k0;replace k1:=x2.cell k1;replace k2:=x2.cell k2;replace k3:=x2.cell k3;replace k4:=x2.cell k4;replace g0:=x2.cell g0;replace g1:=x2.cell g1;replace g2:=x2.cell g2;replace u0:=x2.cell u0;replace u1:=x2.cell u1;replace u2:=x2.cell u2;have f0:=(BU.ext x2).frz 0
  go_upto_region 24 with fail
  have X2:=X1.trans x2;clear HT f0;have BU3:=(BU.ext x2).set 0 (.int .i64 zx);have X3:Ext w (w2.setCell ⟨gx+1,0,none⟩ (.int .i64 zx)):=X2.setNew (p:=⟨gx+1,0,none⟩) (by simp only;omega) _;have hoth:∀o,pb≠gx+1->(w2.setCell ⟨gx+1,0,none⟩ (.int .i64 zx)).cell? ⟨pb,o,none⟩=w2.cell? ⟨pb,o,none⟩:=fun o hne=>World.cell?_setCell_other _ _ _ _ (by intro e;injection e with e1;omega);have hne:pb≠gx+1:=om;replace k0:=(hoth _ hne).trans k0;replace k1:=(hoth _ hne).trans k1;replace k2:=(hoth _ hne).trans k2;replace k3:=(hoth _ hne).trans k3;replace k4:=(hoth _ hne).trans k4;clear hoth hne g0 g1 g2 u0 u1 u2;generalize w2.setCell ⟨gx+1,0,none⟩ (.int .i64 zx)=w3 at *;have u0:w3.cell? ⟨gx+1,0,none⟩=some (.int .i64 zx):=BU3.cell 0;have u1:w3.cell? ⟨gx+1,1,none⟩=some (.int .i64 0):=BU3.cell 1;have u2:w3.cell? ⟨gx+1,2,none⟩=some (.int .i64 0):=BU3.cell 2;by_cases hs:zl=[]
  ·subst hs;by_cases hq:(zx=zx/\zy=0/\zn=0)
   ·have HRES:Hid (res=true):=lh (by rw[<-hres.out];exact okB_t ⟨.inr rfl,.inr hq.2.1,.inr (.inl rfl),.inr (.inr hq.2.2),.inr (.inr (.inr (.inl ⟨rfl,ht⟩)))⟩);have hqb:=eqNumT zx zy zn zx 0 0 hq;have HQ2:=fun(W:World)=>HQ zx zy zn zx 0 0 W;rw[hqb] at HQ2;clear HQ hq hqb;exact Y23z1
   ·have HRES:Hid (res=false):=lh (by rw[<-hres.out];exact okB_f (fun h=>hq (by have h1:=h.2.1;have h2:=h.2.2.1;have h3:=h.2.2.2.1;simp only at h1 h2 h3;omega)));have hqb:=eqNumF zx zy zn zx 0 0 hq;have HQ2:=fun(W:World)=>HQ zx zy zn zx 0 0 W;rw[hqb] at HQ2;clear HQ hq hqb;exact Y23z1
  ·have HRES:Hid (res=false):=lh (by rw[<-hres.out];exact okB_f (fun h=>h.1.elim (fun h1=>by first|exact absurd h1 de|(simp only at h1;omega)) hs));have hl0:((zl.length:Int) == 0)=false:=by rw[beq_eq_false_iff_ne];have:=List.length_pos_iff.2 hs;omega
   exact Y23z1
 ·skip
  have HT:=lh (show Calls Tryz.prog 222 #[.int .i64 zx,.pointer (some ⟨gx,0,none⟩)] w1 (RetV (.bool false) w1) by
   have h9:=target_any w1 gx gA n gc hn g0 zx;rw[decide_eq_false ht] at h9;exact h9)
  go_upto_region 16 with fail
  go_upto_region 17 with(go_at_fn 222;refine HT.out.mono ?_;rintro e w2 ⟨rfl,x2⟩)
  replace k0:=x2.cell k0;replace k1:=x2.cell k1;replace k2:=x2.cell k2;replace k3:=x2.cell k3;replace k4:=x2.cell k4;replace g0:=x2.cell g0;replace g1:=x2.cell g1;replace g2:=x2.cell g2;replace u0:=x2.cell u0;replace u1:=x2.cell u1;replace u2:=x2.cell u2;have f0:=(BU.ext x2).frz 0
  go_upto_region 24 with fail
  have X2:=X1.trans x2;clear HT f0;have BU3:=(BU.ext x2).set 0 (.int .i64 zx);have X3:Ext w (w2.setCell ⟨gx+1,0,none⟩ (.int .i64 zx)):=X2.setNew (p:=⟨gx+1,0,none⟩) (by simp only;omega) _;have hoth:∀o,pb≠gx+1->(w2.setCell ⟨gx+1,0,none⟩ (.int .i64 zx)).cell? ⟨pb,o,none⟩=w2.cell? ⟨pb,o,none⟩:=fun o hne=>World.cell?_setCell_other _ _ _ _ (by intro e;injection e with e1;omega);have hne:pb≠gx+1:=om;replace k0:=(hoth _ hne).trans k0;replace k1:=(hoth _ hne).trans k1;replace k2:=(hoth _ hne).trans k2;replace k3:=(hoth _ hne).trans k3;replace k4:=(hoth _ hne).trans k4;clear hoth hne g0 g1 g2 u0 u1 u2;generalize w2.setCell ⟨gx+1,0,none⟩ (.int .i64 zx)=w3 at *;have u0:w3.cell? ⟨gx+1,0,none⟩=some (.int .i64 zx):=BU3.cell 0;have u1:w3.cell? ⟨gx+1,1,none⟩=some (.int .i64 0):=BU3.cell 1;have u2:w3.cell? ⟨gx+1,2,none⟩=some (.int .i64 0):=BU3.cell 2;have HRES:Hid (res=false):=lh (by rw[<-hres.out];exact okB_f (fun h=>by have h1:=h.2.2.2.2;simp only at h1;omega));exact Y23z1
theorem pvz_any (gA:Option Addr)(n gc:Nat)(hn:n<=gc/\gc<=9223372036854775807)(runes:Bool)(caps:Int)(hcaps:0<=caps/\caps<=9)(zo zx zy zn:Int)(A:Option Addr)(c:Nat)(zl:List Sp)(w:World)(hL:SL w A c zl)(pb q:Nat)(hzo:zo≠0/\zo≠1/\zo≠2/\zo≠3/\zo≠4/\zo≠5)
 (c0:w.cell? ⟨pb,q,none⟩=some (.int .i64 zo)) (c1:w.cell? ⟨pb,q+1,none⟩=some (.int .i64 zx)) (c2:w.cell? ⟨pb,q+2,none⟩=some (.int .i64 zy)) (c3:w.cell? ⟨pb,q+3,none⟩=some (.int .i64 zn)) (c4:w.cell? ⟨pb,q+4,none⟩=some (.slice A zl.length c)) :
 Calls Tryz.prog 165 #[.agg #[.slice gA n gc,.int .i64 caps,.bool runes],.pointer (some ⟨pb,q,none⟩)] w (RetV (.bool (okB runes caps n ⟨zo,zx,zy,zn,zl⟩)) w):=by
 have hlen:=hL.len;have BG0:=Blk.new w 35 #[.slice gA n gc,.int .i64 caps,.bool runes];have EG0:=Ext.alloc w (.cells #[.slice gA n gc,.int .i64 caps,.bool runes] 35);have BU:=Blk.new (w.alloc (.cells #[.slice gA n gc,.int .i64 caps,.bool runes] 35)) 350 #[.int .i64 0,.int .i64 0,.int .i64 0];have EU:=Ext.alloc (w.alloc (.cells #[.slice gA n gc,.int .i64 caps,.bool runes] 35)) (.cells #[.int .i64 0,.int .i64 0,.int .i64 0] 350);have BG:=BG0.ext EU;have X1:=EG0.trans EU;rw[World.size_alloc] at BU;obtain⟨res,hres⟩:∃res,Hid (okB runes caps n ⟨zo,zx,zy,zn,zl⟩=res):=⟨_,lh rfl⟩;rw[hres.out];have eg:=egTarget;have HQ:=fun(a b c d e f:Int) (W:World)=>eqNum a b c d e f W;go_enter Tryz.func165,Tryz.ntmps165
 go_upto_region 4 with fail
 obtain⟨gx,hgx⟩:∃gx,gx=w.heap.size:=⟨_,rfl⟩
 rw[<-hgx] at BG BU ⊢;clear BG0;generalize (w.alloc (.cells #[.slice gA n gc,.int .i64 caps,.bool runes] 35)).alloc (.cells #[.int .i64 0,.int .i64 0,.int .i64 0] 350)=w1 at *;have hpg:pb<gx:=by have:=World.block_lt_of_cell? _ _ c0;simp only at this;omega
 have hgw:w.heap.size<=gx:=om;clear EG0 EU hgx;have k0:=X1.cell c0;have k1:=X1.cell c1;have k2:=X1.cell c2;have k3:=X1.cell c3;have k4:=X1.cell c4;have g0:w1.cell? ⟨gx,0,none⟩=some (.slice gA n gc):=BG.cell 0;have g1:w1.cell? ⟨gx,1,none⟩=some (.int .i64 caps):=BG.cell 1;have g2:w1.cell? ⟨gx,2,none⟩=some (.bool runes):=BG.cell 2;have u0:w1.cell? ⟨gx+1,0,none⟩=some (.int .i64 0):=BU.cell 0;have u1:w1.cell? ⟨gx+1,1,none⟩=some (.int .i64 0):=BU.cell 1;have u2:w1.cell? ⟨gx+1,2,none⟩=some (.int .i64 0):=BU.cell 2;clear c0 c1 c2 c3 c4;obtain⟨h0,h1,h2,h3,h4,h5⟩:=hzo;have b0:(zo == 0)=false:=by rw[beq_eq_false_iff_ne];exact h0
 have b1:(zo == 1)=false:=by rw[beq_eq_false_iff_ne];exact h1
 have b2:(zo == 2)=false:=by rw[beq_eq_false_iff_ne];exact h2
 have b3:(zo == 3)=false:=by rw[beq_eq_false_iff_ne];exact h3
 have b4:(zo == 4)=false:=by rw[beq_eq_false_iff_ne];exact h4
 have b5:(zo == 5)=false:=by rw[beq_eq_false_iff_ne];exact h5
 have HRES:Hid (res=false):=lh (by rw[<-hres.out];exact okB_f (fun h=>by have h1:=h.2.2.2.2;simp only at h1;omega));have j0:=kc0 k0;have j1:=kc0 k1;have j2:=kc0 k2;have j3:=kc0 k3;have j4:=kc0 k4;have ju0:=kc0 u0;have ju1:=kc0 u1;have ju2:=kc0 u2
 go_upto_region 24 with fail
 refine Xr.start [] kr ?_;refine Xtk 0 ?_;refine Xtn ?_
 iterate 13(first|refine Xtn ?_|refine Xsn ?_)
 iterate 2(refine Xtn ?_)
 iterate 15(first|refine Xtn ?_|refine Xsn ?_)
 iterate 2(refine Xtn ?_)
 refine Xdn fun w9 hE9 hK9=>?_;clear j0 j1 j2 j3 j4 ju0 ju1 ju2
 go_wp2_with fail
 go_ret
 exact⟨by rw[<-HRES.out];rfl,X1.trans hE9⟩
theorem infoRu:(Tryz.prog.info? 140).map (fun i=>(i.zero,i.size,i.bytes))=some (some (.agg #[.pointer none,.pointer none]),2,16):=by kernel_rfl
def RetKp (P:Av)(rest pr:List Ru)(e:Ending)(w':World):Prop:=e=.returned (.tuple #[])/\∃sts RA rc rs,AvI P w' sts RA rc rs rest pr
theorem flatR_get {rs:List Ru}{i:Nat}{r:Ru}(h:rs[i]? = some r):(flatR rs)[i*2]? = some (.pointer (some ⟨r.sb,0,none⟩))/\(flatR rs)[i*2+1]? = some (.pointer (some ⟨r.b,0,none⟩)):=by
 induction rs generalizing i with
 | nil=>simp at h
 | cons x t ih=>
  have e:flatR (x::t)=.pointer (some ⟨x.sb,0,none⟩)::.pointer (some ⟨x.b,0,none⟩)::flatR t:=by simp[flatR]
  rw[e]
  cases i with
  | zero=>simp at h;subst h;simp
  | succ i=>
   rw[List.getElem?_cons_succ] at h;have:=ih h;have e1:(i+1)*2=i*2+1+1:=om;rw[e1]
   simpa using this
theorem flatR_set {xs ys:List Ru}{r r2:Ru}(h:r2.sb=r.sb):(flatR (xs++r::ys)).set (xs.length*2+1) (.pointer (some ⟨r2.b,0,none⟩))=flatR (xs++r2::ys):=by
 have e:∀q:Ru,flatR (xs++q::ys)=flatR xs++(.pointer (some ⟨q.sb,0,none⟩)::.pointer (some ⟨q.b,0,none⟩)::flatR ys):=fun q=>by rw[flatR_app];simp[flatR]
 rw[e,e,List.set_append_right _ _ (by rw[flatR_len];omega),flatR_len,h];have:xs.length*2+1-xs.length*2=1:=om;rw[this]
 rfl
theorem its_len {r:Ru}{rs:List Ru}(h:r∈rs):(r.f.pos (-1)).length<=(itsR rs).length:=by
 obtain⟨a,b,rfl⟩:=List.append_of_mem h;rw[itsR_app,itsR_cons,List.length_append,List.length_append];have:r.its.length=(r.f.pos (-1)).length:=by simp[Ru.its]
 omega
theorem openI_len (D:St->Bool)(I:List Itm):(openI D I).length<=I.length:=List.length_filter_le _ _
theorem shutI_len (D:St->Bool)(I:List Itm):(shutI D I).length<=I.length:=List.length_filter_le _ _
theorem resI_len (D:St->Bool)(I:List Itm):(resI D I).length<=I.length:=Nat.le_trans (List.length_filterMap_le _ _) (shutI_len D I)
theorem keepC_any (P:Av)(hnb:∀b,P.w0.heap.size<=b->P.F b)(hB:(itsR P.lrs).length<=100000)(hR:P.R0.length<=100000)(hop : -100000<=P.op0/\P.op0<=500000)(w:World)(sts:List Sta)(RA:Option Addr)(rc:Nat)(rs:List Ru)(r:Ru)(rest pr:List Ru)
 (h:AvI P w sts RA rc rs (r::rest) pr):Calls Tryz.prog 137 #[.agg #[.pointer (some ⟨r.sb,0,none⟩),.pointer (some ⟨r.b,0,none⟩)],.pointer (some ⟨P.z1,0,none⟩),.pointer (some ⟨P.z2,0,none⟩)] w (RetKp P rest (pr++[r])):=by
 have BR:=Blk.new w 140 #[.pointer (some ⟨r.sb,0,none⟩),.pointer (some ⟨r.b,0,none⟩)];have ER:=Ext.alloc w (.cells #[.pointer (some ⟨r.sb,0,none⟩),.pointer (some ⟨r.b,0,none⟩)] 140);have hI:=h.ext ER;have HL0:=h.hl;have hprl:(itsR pr).length+(r.f.pos (-1)).length<=100000:=by
  have e:itsR P.lrs=itsR pr++(r.its++itsR rest):=by rw[HL0,itsR_app,itsR_cons]
  rw[e,List.length_append,List.length_append] at hB;have:r.its.length=(r.f.pos (-1)).length:=by simp[Ru.its]
  omega
 have hRAw:RA.map (·.block)≠some w.heap.size:=fun e=>by have:=(OwnS.blt h.ow e).1;omega
 clear h HL0;go_enter Tryz.func137,Tryz.ntmps137
 go_upto_region 1 with fail
 obtain⟨zr,hzr⟩:∃z,z=w.heap.size:=⟨_,rfl⟩
 rw[<-hzr] at BR hRAw ⊢;have HRZ:=lh hRAw;clear hzr hRAw;generalize w.alloc (.cells #[.pointer (some ⟨r.sb,0,none⟩),.pointer (some ⟨r.b,0,none⟩)] 140)=w1 at *;obtain⟨z,hz,hzb,hzl⟩:=hI.re r si;have HI:=lh hI;have HBR:=lh BR;have bz:=(hI.ma.sq.at_ z hz).blk;rw[hzb] at bz;have r0:w1.cell? ⟨zr,0,none⟩=some (.pointer (some ⟨r.sb,0,none⟩)):=BR.cell 0;have r1:w1.cell? ⟨zr,1,none⟩=some (.pointer (some ⟨r.b,0,none⟩)):=BR.cell 1;have s2:w1.cell? ⟨r.sb,2,none⟩=some (.bool (P.D r.l)):=by
  have:=bz.cell 2;unfold Av.D
  rw[<-hzl];exact this
 have q1:w1.cell? ⟨P.z1,0,none⟩=some (.pointer (some ⟨P.gs,0,none⟩)):=hI.b1.cell 0;have q2:w1.cell? ⟨P.z2,0,none⟩=some (.pointer (some ⟨P.gr,0,none⟩)):=hI.b2.cell 0;have HZ:=lh (And.intro hz (And.intro hzb hzl));have HBZ:=lh bz;by_cases hd:P.D r.l=true
 ·rw[hd] at s2;have HD:=lh hd;obtain⟨A,c,hr,ha⟩:=hI.res;have hpl:((grp r.b r.p r.e r.A r.c r.k).pos (-1)).length<=1000000:=by
   have e:grp r.b r.p r.e r.A r.c r.k=r.f:=rfl;rw[e];omega
  have HRES:=lh (results_any P.gs P.gr r.sb r.b r.p r.e r.A r.c r.k (P.hs RA rs.length rc) (P.op0-(shutI P.D (itsR pr)).length) A c _ w1 (hI.gt r si) hI.st hr (by have:=shutI_len P.D (itsR pr);omega) hpl (by have:=resI_len P.D (itsR pr);rw[List.length_append];omega));have HRA:=lh (And.intro hr ha);clear hd hr ha hI bz hz hzb hzl
  go_wp2_with (go_at_call 72;refine HRES.out.mono ?_;rintro en w2 ⟨rfl,ho⟩)
  exact bodyPost_end (v:=.tuple #[]) (by simp[results,Tryz.results137,go_sem]) rfl ⟨rfl,_,_,_,_,HI.out.dec HD.out HRA.out.1 HRA.out.2 ho⟩
 ·have hd':P.D r.l=false:=by simpa using hd
  rw[hd'] at s2;have HD:=lh hd';have s4:w1.cell? ⟨r.sb,4,none⟩=some (.int .i64 z.rd):=bz.cell 4;have g0:w1.cell? ⟨P.gs,0,none⟩=some (.pointer (some ⟨P.q.gm,0,none⟩)):=hI.st.cell 0;have m4:w1.cell? ⟨P.q.gm,4,none⟩=some (.int .i64 P.rd):=hI.ma.blk.cell 4;clear hd hd' hI bz hz hzb hzl;have j1:=kc0 q1;have j2:=kc0 g0;have j3:=kc0 m4;have j4:=kc0 s4
  go_upto_region 6 with fail
  clear q1 q2 s2 s4 g0 m4 r0 r1;refine Xr.start [] kr ?_;refine Xtk 0 ?_
  iterate 12(refine Xtn ?_)
  refine Xdn fun w2 hE2 hK2=>?_;clear j1 j2 j3 j4 hK2;by_cases hrd:z.rd=P.rd
  ·have hrd':(z.rd == P.rd)=true:=by simp[hrd]
   obtain⟨r',hsl0,hsl,hsb⟩:=(HI.out.sl z HZ.out.1).2 hrd;obtain⟨i,hi⟩:∃i,i=z.sl.toNat:=⟨_,rfl⟩;have hzi:z.sl=(i:Int):=om
   rw[<-hi] at hsl;have hil:=(List.getElem?_eq_some_iff.1 hsl).1;obtain⟨xs,ys,hxy,hxl⟩:∃xs ys,rs=xs++r'::ys/\xs.length=i:=by
    refine⟨rs.take i,rs.drop (i+1),?_,by rw[List.length_take];omega⟩;have h1:=(List.getElem?_eq_some_iff.1 hsl).2;have h2:rs.drop i=rs[i]::rs.drop (i+1):=List.drop_eq_getElem_cons hil;rw[h1] at h2
    rw[<-h2,List.take_append_drop]
   have hrl:r'.l=r.l:=by
    obtain⟨u,hu,h1,h2,_⟩:=HI.out.rr i r' hsl;have h3:=HI.out.ma.sq.inj u hu z HZ.out.1 (.inl (by rw[h1,hsb]))
    rw[<-h2,h3];exact HZ.out.2.2
   have hI2:=HI.out.ext hE2;have bz2:=HBZ.out.ext hE2;have HI2:=lh hI2;have mr':r'∈rs:=by rw[hxy];simp
   have hpl':((grp r'.b r'.p r'.e r'.A r'.c r'.k).pos (-1)).length<=100000:=by
    have e:grp r'.b r'.p r'.e r'.A r'.c r'.k=r'.f:=rfl;rw[e];have h1:=its_len mr';have h2:=HI2.out.it.length_eq;have h3:=openI_len P.D (itsR pr);omega
   have hpl:((grp r.b r.p r.e r.A r.c r.k).pos (-1)).length<=100000:=by
    have e:grp r.b r.p r.e r.A r.c r.k=r.f:=rfl;rw[e];omega
   have ga':(grp r'.b r'.p r'.e r'.A r'.c r'.k).At w2:=HI2.out.gt r' (by simp[mr']);have ga:(grp r.b r.p r.e r.A r.c r.k).At w2:=HI2.out.gt r si;have hnd:((grp r'.b r'.p r'.e r'.A r'.c r'.k).fp++(grp r.b r.p r.e r.A r.c r.k).fp).Nodup:=by
    have h1:=HI2.out.nd;rw[hxy] at h1;have e:fpR (xs++r'::ys++r::rest)=fpR xs++(r'.f.fp++(fpR ys++(r.f.fp++fpR rest))):=by simp[fpR]
    rw[e] at h1;have h2:=(List.nodup_append.1 h1).2.1;refine List.Nodup.sublist ?_ h2;exact(List.Sublist.refl _).append ((List.sublist_append_left _ _).trans (List.sublist_append_right _ _))
   have hal:doneG P.G r.l=true->∃N,∀x∈(grp r'.b r'.p r'.e r'.A r'.c r'.k).pos (-1)++(grp r.b r.p r.e r.A r.c r.k).pos (-1),x.2=N:=fun hd=>⟨P.N,fun x hx=>by
    rcases List.mem_append.1 hx with hx|hx
    ·exact HI2.out.dn r' (by simp[mr']) (by rw[hrl];exact hd) x hx
    ·exact HI2.out.dn r si hd x hx⟩
   have HUN:=fun(w':World) (x:Ext w2 w')=>lh (unite_any r'.b r'.p r'.e r'.A r'.c r'.k r.b r.p r.e r.A r.c r.k (doneG P.G r.l) w' (ga'.ext x) (ga.ext x) hnd om hal);have hfg:=flatR_get hsl;obtain⟨hf1,hf2⟩:=List.getElem?_eq_some_iff.1 hfg.2;obtain⟨gR,hAR,_,hRc,_,hRlt,_⟩:=OwnS.store hI2.ow hf1;rw[hf2] at hRc;have hilI:(i:Int)<rs.length:=om;have hcap:=OwnS.caps hI2.ow;have hty:∀b∈(grp r'.b r'.p r'.e r'.A r'.c r'.k).fp++(grp r.b r.p r.e r.A r.c r.k).fp,∀w',Ext w2 w'->∃cs T,w'.heap[b]? = some (.cells cs T (0,0))/\(T=250\/T=138):=fun b hb w' x=>by
    rcases List.mem_append.1 hb with hb|hb
    ·exact(ga'.ext x).ty b hb
    ·exact(ga.ext x).ty b hb
   have hnT:∀{w':World} {g T:Nat} {cs:Array Value},Ext w2 w'->Blk w' g T cs->T≠250->T≠138->¬g∈(grp r'.b r'.p r'.e r'.A r'.c r'.k).fp++(grp r.b r.p r.e r.A r.c r.k).fp:=fun{w' g T cs} x hb h1 h2 hg=>by
    obtain⟨ds,U,hh,hU⟩:=hty g hg w' x;unfold Blk at hb;rw[hb] at hh;injection hh with hh;injection hh with _ hh
    subst hh;rcases hU with hU|hU
    ·exact h1 hU
    ·exact h2 hU
   obtain⟨LF,hLF⟩:∃LF,LF=(grp r'.b r'.p r'.e r'.A r'.c r'.k).fp++(grp r.b r.p r.e r.A r.c r.k).fp:=⟨_,rfl⟩;have hLlt:∀b∈gR::LF,b<w2.heap.size:=fun b hb=>by
    rcases List.mem_cons.1 hb with rfl|hb
    ·exact hRlt
    ·rw[hLF] at hb;rcases List.mem_append.1 hb with hb|hb
     ·exact ga'.lt b hb
     ·exact ga.lt b hb
   have n1:¬P.z1∈gR::LF:=fun hb=>by
    rcases List.mem_cons.1 hb with hb|hb
    ·exact own_blk hI2.ow hI2.b1 de (by rw[hAR,hb];rfl)
    ·rw[hLF] at hb;exact hnT (Ext.rfl' _) hI2.b1 de de hb
   have n2:¬P.gs∈gR::LF:=fun hb=>by
    rcases List.mem_cons.1 hb with hb|hb
    ·exact own_blk hI2.ow hI2.st de (by rw[hAR,hb];rfl)
    ·rw[hLF] at hb;exact hnT (Ext.rfl' _) hI2.st de de hb
   have n3:¬r.sb∈gR::LF:=fun hb=>by
    rcases List.mem_cons.1 hb with hb|hb
    ·exact own_blk hI2.ow bz2 de (by rw[hAR,hb];rfl)
    ·rw[hLF] at hb;exact hnT (Ext.rfl' _) bz2 de de hb
   have nzr:¬zr∈gR::LF:=fun hb=>by
    rcases List.mem_cons.1 hb with hb|hb
    ·exact HRZ.out (by rw[hAR,hb];rfl)
    ·rw[hLF] at hb;exact hnT (Ext.rfl' _) (HBR.out.ext hE2) de de hb
   have HNR:=lh (fun(w':World) (x:Ext w2 w')=>show ∀b,RA.map (·.block)=some b->¬b∈LF from fun b hb h=>by
    obtain⟨_,cur,hh⟩:=OwnS.blt (OwnS.ext hI2.ow x) hb;rw[hLF] at h;exact hnT x (show Blk w' b _ cur from hh) de de h)
   have q1:w2.cell? ⟨P.z1,0,none⟩=some (.pointer (some ⟨P.gs,0,none⟩)):=hI2.b1.cell 0;have g1:w2.cell? ⟨P.gs,1,none⟩=some (.slice RA rs.length rc):=hI2.st.cell 1;rw[hAR] at g1;have z5:w2.cell? ⟨r.sb,5,none⟩=some (.int .i64 i):=by rw[<-hzi];exact bz2.cell 5
   have z1c:w2.cell? ⟨r.sb,1,none⟩=some (.bool (doneG P.G r.l)):=by rw[<-HZ.out.2.2];exact bz2.cell 1
   have zr1:w2.cell? ⟨zr,1,none⟩=some (.pointer (some ⟨r.b,0,none⟩)):=(HBR.out.ext hE2).cell 1
   go_upto_region 7 with fail
   have HXY:=lh (And.intro hxy (And.intro hxl (And.intro hsb hrl)));have HLF:=lh hLF;have HGT:=lh (And.intro ga' ga);have HAR:=lh hAR;have j1:=fun(w':World) (k:Kp (gR::LF) w2 w')=>k.cell q1 n1;have j2:=fun(w':World) (k:Kp (gR::LF) w2 w')=>k.cell g1 n2;have j3:=fun(w':World) (k:Kp (gR::LF) w2 w')=>k.cell z5 n3;have j4:=fun(w':World) (k:Kp (gR::LF) w2 w')=>k.cell z1c n3;have j5:=fun(w':World) (k:Kp (gR::LF) w2 w')=>k.cell zr1 nzr;clear hxy hxl hsb hrl hLF ga' ga hnd hal hty hnT mr' hsl hi hzi hsl0 hfg hf2 hI2 bz2 q1 g1 z5 z1c zr1 hrd hrd';refine Xr.start (gR::LF) kr ?_;refine Xtk 0 ?_
   iterate 17(refine Xtn ?_)
   refine Xtk 19 ?_
   iterate 5(refine Xtn ?_)
   refine Xsp 18 fun w4 hE4 hK4 K hKK=>?_;have c18:=hE4.cell hRc;go_simp;refine hKK _ _ (WI_refl _ _ _) hK4 ?_;clear hKK c18 hRc;refine ptm ?_;refine Xsp 25 fun w5 hE5 hK5 K hKK=>?_;have x5:=hE4.trans hE5;go_simp;refine(HUN w5 x5).out.mono ?_;rintro en w6 ⟨b',p',e',A',c',k',rfl,hu⟩;have hkL:KpP (fun b=>b∈LF) w5 w6:=by rw[HLF.out];exact hu.kp
   refine hKK _ _ (WI_kp hkL (fun i hi=>List.mem_cons_of_mem _ hi)) (hK5.kpP hkL (fun i hi=>List.mem_cons_of_mem _ hi)) ?_;clear hKK;refine ptm ?_;refine Xtk 26 ?_;refine Xtn ?_;refine Xsp 28 fun w7 hE7 hK7 K hKK=>?_;have HI5:=HI2.out.ext x5;have ow7:=OwnS.ext (OwnS.kp HI5.ow hkL (HNR.out w5 x5)) hE7;obtain⟨g9,hA9,_,c28,f28,_,hset⟩:=OwnS.store ow7 hf1;have hgg:g9=gR:=by rw[HAR.out] at hA9;injection hA9 with h;injection h with h;exact h.symm
   subst hgg;go_simp;refine hKK _ _ (WI_setL (WI_refl _ _ _) List.mem_cons_self _ _) (hK7.setL List.mem_cons_self _ _) ?_;clear hKK;refine ptm ?_;refine Xdn fun w8 hE8 hK8=>?_;have HF:Hid (RetKp P rest (pr++[r]) (.returned (.tuple #[])) w8):=lh (by
    obtain⟨hxy,hxl,hsb,hrl⟩:=HXY.out;have k3:KpP (fun b=>RA.map (·.block)=some b) w6 w8:=
     (KpP.of_ext hE7).trans ((KpP.set (p:=fun b=>RA.map (·.block)=some b) (x:=⟨g9,i*2+1,none⟩) (KpP.refl _ _) (.inl (by rw[HAR.out];rfl)) (.pointer (some ⟨b',0,none⟩))).trans (KpP.of_ext hE8))
    have ow8:=OwnS.ext (hset (.pointer (some ⟨b',0,none⟩))) hE8;have hfs:(flatR rs).set (i*2+1) (.pointer (some ⟨b',0,none⟩))=flatR (xs++(⟨r'.sb,r'.l,b',p',e',A',c',k'⟩:Ru)::ys):=by
     rw[hxy,<-hxl];exact flatR_set (r:=r') (r2:=⟨r'.sb,r'.l,b',p',e',A',c',k'⟩) rfl
    rw[hfs] at ow8;exact⟨rfl,_,_,_,_,AvI.unite (HI2.out.ext x5) hnb hxy hrl HD.out hu rfl k3 ow8⟩)
   clear hE8 hK8 hset c28 f28 ow7 HI5 hkL hu hE7 hK7
   go_wp2_with fail
   exact bodyPost_end (v:=.tuple #[]) (by simp[results,Tryz.results137,go_sem]) rfl HF.out
  ·have hrd':(z.rd == P.rd)=false:=by simp[hrd]
   have HRD:=lh hrd;clear hrd
   go_upto_region 2 with fail
   clear hrd';have hI2:=HI.out.ext hE2;have bz2:=HBZ.out.ext hE2;have HI2:=lh hI2;have nz1:=blk_blk hI2.b1 bz2 de;have nzs:=blk_blk hI2.st bz2 de;have nzm:=blk_blk hI2.ma.blk bz2 de;have q1:w2.cell? ⟨P.z1,0,none⟩=some (.pointer (some ⟨P.gs,0,none⟩)):=hI2.b1.cell 0;have g0:w2.cell? ⟨P.gs,0,none⟩=some (.pointer (some ⟨P.q.gm,0,none⟩)):=hI2.st.cell 0;have g1:w2.cell? ⟨P.gs,1,none⟩=some (.slice RA rs.length rc):=hI2.st.cell 1;have m4:w2.cell? ⟨P.q.gm,4,none⟩=some (.int .i64 P.rd):=hI2.ma.blk.cell 4;have hcap:=OwnS.caps hI2.ow;have j1:=fun(w':World) (h:Kp [r.sb] w2 w')=>h.cell q1 (by simpa using nz1);have j2:=fun(w':World) (h:Kp [r.sb] w2 w')=>h.cell g0 (by simpa using nzs);have j3:=fun(w':World) (h:Kp [r.sb] w2 w')=>h.cell g1 (by simpa using nzs);have j4:=fun(w':World) (h:Kp [r.sb] w2 w')=>h.cell m4 (by simpa using nzm);clear q1 g0 g1 m4 hI2;have HB2:=lh bz2;clear bz2;refine Xr.start [r.sb] kr ?_;refine Xtk 0 ?_
   iterate 15(refine Xtn ?_)
   refine Xsp 16 fun w3 hE3 hK3 K hKK=>?_;have B3:=HB2.out.ext hE3;have c4:w3.cell? ⟨r.sb,4,none⟩=some (.int .i64 z.rd):=B3.cell 4;have f4:=B3.frz 4;go_simp;refine hKK _ _ (WI_setL (WI_refl _ _ _) List.mem_cons_self _ _) (hK3.setL List.mem_cons_self _ _) ?_;clear hKK;refine ptm ?_;refine Xtk 17 ?_;refine Xtn ?_;refine Xsp 19 fun w4 hE4 hK4 K hKK=>?_;have B4:=(B3.set 4 (.int .i64 P.rd)).ext hE4;have c5:w4.cell? ⟨r.sb,5,none⟩=some (.int .i64 z.sl):=by have:=B4.cell 5;simpa[staC] using this
   have f5:=B4.frz 5;go_simp;refine hKK _ _ (WI_setL (WI_refl _ _ _) List.mem_cons_self _ _) (hK4.setL List.mem_cons_self _ _) ?_;clear hKK;refine ptm ?_;refine Xdn fun w5 hE5 hK5=>?_;have k5:KpP (·=r.sb) w2 w5:=(KpP.of_ext hE3).trans ((KpP.set (p:=(·=r.sb)) (x:=⟨r.sb,4,none⟩) (KpP.refl _ _) (.inl rfl) _).trans ((KpP.of_ext hE4).trans ((KpP.set (p:=(·=r.sb)) (x:=⟨r.sb,5,none⟩) (KpP.refl _ _) (.inl rfl) _).trans (KpP.of_ext hE5))));have B5:Blk w5 r.sb 149 (staC P.q.cd ⟨z.b,z.A,z.c,z.l,z.gn,z.nx,P.rd,rs.length⟩):=by
    have:=(B4.set 5 (.int .i64 rs.length)).ext hE5
    simpa[staC] using this
   have K5:=lh k5;have HB5:=lh B5;clear j1 j2 j3 j4 hE3 hK3 hE4 hK4 hE5 hK5 B3 B4 B5 c4 f4 c5 f5 k5;have ne5:∀{T cs g},Blk w2 g T cs->T≠149->g≠r.sb:=fun hb hT=>blk_blk hb HB2.out hT;have b15:=K5.out.blk HI2.out.b1 (ne5 HI2.out.b1 de);have st5:=K5.out.blk HI2.out.st (ne5 HI2.out.st de);have br5:=K5.out.blk (HBR.out.ext hE2) (ne5 (HBR.out.ext hE2) de);have ow5:=OwnS.kp HI2.out.ow K5.out (fun b hb e=>own_blk HI2.out.ow HB2.out de (by rw[hb,show b=r.sb from e]));obtain⟨iP,jP0,jP1,jP2,jP3⟩:=info_parts infoRu;have hlen:rs.length<=1000000:=by
    have hit:=HI2.out.it.length_eq;have h1:=openI_len P.D (itsR pr);have h2:rs.length<=(itsR rs).length:=by
     have:∀(l:List Ru),(∀x∈l,x.f.At w2)->l.length<=(itsR l).length:=fun l=>by
      induction l with
      | nil=>intro _;simp
      | cons x t ih=>
       intro hx;have h3:=ih (fun y hy=>hx y (by simp[hy]));have h4:=Fo.len_pos (-1) (hx x si);have h5:x.f.len=1:=rfl;have h6:x.its.length=(x.f.pos (-1)).length:=by simp[Ru.its]
       rw[itsR_cons,List.length_append,List.length_cons];omega
     exact this rs (fun x hx=>HI2.out.gt x (by simp[hx]))
    omega
   have HST5:=lh st5;have HOW5:=lh ow5;have HBR5:=lh br5;have nA:=own_blk ow5 st5 de;have nA1:=own_blk ow5 b15 de;have n1:=blk_blk b15 st5 de;have nr:=blk_blk br5 st5 de;have nAr:=HRZ.out;have z1c:w5.cell? ⟨P.z1,0,none⟩=some (.pointer (some ⟨P.gs,0,none⟩)):=b15.cell 0;have zrc0:w5.cell? ⟨zr,0,none⟩=some (.pointer (some ⟨r.sb,0,none⟩)):=br5.cell 0;have zrc1:w5.cell? ⟨zr,1,none⟩=some (.pointer (some ⟨r.b,0,none⟩)):=br5.cell 1;have j1:=fun(w':World) (k:Kp (P.gs::blkL RA) w5 w')=>k.cell z1c (by
    simp only[List.mem_cons,mem_blkL,not_or];exact⟨n1,nA1⟩)
   have j2:=fun(w':World) (k:Kp (P.gs::blkL RA) w5 w')=>k.cell zrc0 (by
    simp only[List.mem_cons,mem_blkL,not_or];exact⟨nr,nAr⟩)
   have j3:=fun(w':World) (k:Kp (P.gs::blkL RA) w5 w')=>k.cell zrc1 (by
    simp only[List.mem_cons,mem_blkL,not_or];exact⟨nr,nAr⟩)
   clear z1c zrc0 zrc1 b15 st5 br5 ow5
   go_upto_region 3 with fail
   refine Xr.start (P.gs::blkL RA) kr ?_;refine Xtk 0 ?_
   iterate 3(refine Xtn ?_)
   refine Xtk 5 ?_;refine Xr.lazy 6 31 7 (fun q=>.slice (some ⟨q,0,none⟩) 1 1) 140 #[.pointer (some ⟨r.sb,0,none⟩),.pointer (some ⟨r.b,0,none⟩)] rfl (fun b hb=>?_) dK si (fun w'=>by go_simp) ?_
   ·rcases List.mem_cons.1 hb with rfl|hb
    ·exact HST5.out.lt
    ·exact(OwnS.blt HOW5.out (mem_blkL.1 hb)).1
   refine Xsp 4 fun w6 hE6 hK6 K hKK=>?_;have c44:w6.cell? ⟨P.gs,1,none⟩=some (.slice RA rs.length rc):=(HST5.out.ext hE6).cell 1;go_simp;refine hKK _ _ (WI_refl _ _ _) hK6 ?_;clear hKK c44;refine ptm ?_;refine Xr.stepZ rfl dK (fun _=>by rfl) (fun w7 g7 hE7 hK7 hg7 hB7 hno K hKK=>?_);have x7:=hE6.trans hE7;refine wp_app _ _ _ _ rfl 0 140 iP (.agg #[.pointer none,.pointer none]) 2 16 Tryz.underlying124 jP0 jP1 jP2 jP3 rfl om RA rs.length rc (flatR rs) rfl (OwnS.ext HOW5.out x7) _ 1 1 [.pointer (some ⟨r.sb,0,none⟩),.pointer (some ⟨r.b,0,none⟩)] rfl rfl (blk_cells hB7) (by intro u hu;simp only[List.mem_cons,List.not_mem_nil,or_false] at hu;rcases hu with rfl|rfl<;>rfl) um om (Nat.zero_le _) ?_;intro A9 c9 w9 ho9 hg9 hat9;refine hKK _ _ (WI_kp (KpP.of_grown hg9) (fun i hi=>List.mem_cons_of_mem _ (mem_blkL.2 hi))) (hK7.kpP (KpP.of_grown hg9) (fun i hi=>List.mem_cons_of_mem _ (mem_blkL.2 hi))) ?_;clear hKK;refine ptm ?_;refine Xtk 8 ?_;refine Xtn ?_;have bg9:=(KpP.of_grown hg9).blk (HST5.out.ext x7) nA;refine Xsp 10 fun w10 hE10 hK10 K hKK=>?_;have cg10:w10.cell? ⟨P.gs,1,none⟩=some (.slice RA rs.length rc):=(bg9.ext hE10).cell 1;have fg10:=(bg9.ext hE10).frz 1;go_simp;refine hKK _ _ (WI_setL (WI_refl _ _ _) List.mem_cons_self _ _) (hK10.setL List.mem_cons_self _ _) ?_;clear hKK;refine ptm ?_;refine Xdn fun w11 hE11 hK11=>?_;have HF:Hid (RetKp P rest (pr++[r]) (.returned (.tuple #[])) w11):=lh (by
    have kg:=KpP.of_grown hg9;have hn9:A9.map (·.block)≠some P.gs:=by
     rcases hat9 with e1|e1
     ·rw[e1];exact nA
     ·rw[e1];intro e2;injection e2 with e2
      have:=(HST5.out.ext x7).lt;omega
    have k3:KpP (fun b=>b=P.gs\/RA.map (·.block)=some b) w5 w11:=
     (KpP.of_ext x7).trans ((kg.mono (fun i hi=>.inr hi)).trans ((KpP.of_ext hE10).trans ((KpP.set (p:=fun b=>b=P.gs\/RA.map (·.block)=some b) (x:=⟨P.gs,1,none⟩) (KpP.refl _ _) (.inl (.inl rfl)) (.slice A9 (rs.length+1) c9)).trans (KpP.of_ext hE11))))
    have st3:=((bg9.ext hE10).set 1 (.slice A9 (rs.length+1) c9)).ext hE11;have ow3:=OwnS.ext (OwnS.far (p:=⟨P.gs,1,none⟩) (OwnS.ext ho9 hE10) hn9 (.slice A9 (rs.length+1) c9)) hE11;have hz2:=HZ.out;refine⟨rfl,_,_,_,_,HI2.out.new hz2.1 hz2.2.1 hz2.2.2 HRD.out HD.out (by rw[hz2.2.1];exact K5.out) (by rw[hz2.2.1];have:=HB5.out;rw[hz2.2.1] at this;exact this) k3 (by simpa[strC,Av.hs] using st3) ow3 ?_⟩;rcases hat9 with e1|e1
    ·exact .inl e1
    ·exact .inr (fun b hb=>by
      rw[e1] at hb;injection hb with hb
      have:=x7.size;omega))
   clear bg9 cg10 fg10 hE11 hK11 ho9 hg9 hat9
   go_wp2_with fail
   exact bodyPost_end (v:=.tuple #[]) (by simp[results,Tryz.results137,go_sem]) rfl HF.out
end
end Go.Proofs.YtmgpefenkilffaaGreat
