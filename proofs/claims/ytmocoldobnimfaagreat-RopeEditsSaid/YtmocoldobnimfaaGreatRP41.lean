/- Texts of this proof: R9 RJ. -/
import Derived.Test.YtmocoldobnimfaaGreatRP33
import Derived.Test.YtmocoldobnimfaaGreatRP40
import Derived.RangeFuncBox
import Derived.RangeFuncWrites
import Derived.RangeFuncFrom
import Derived.RangeFuncBound
import Derived.RangeFuncLeaves
import Derived.Shelf.Abstract
import Derived.OwnWalkIn
import Derived.TacticsInMore
import Derived.LoopNIn
import Derived.LoopIn
import Derived.Maps.AppendAt
set_option linter.all false
set_option maxRecDepth 100000
set_option maxHeartbeats 8000000
namespace Go.Proofs.YtmocoldobnimfaaGreat
section
open Go.RowKit
attribute [local go_sem ↓] Go.wp_at_zero Go.wp_at_succ
def RpAt (S:World→Nat→List Int→Prop)(ok:Int→Prop)(w:World)(gr g:Nat)(o:Option Sh)(k:Nat):Prop:=∃v,Blk w gr 176 #[.pointer (some ⟨g,0,none⟩),v,.int .i64 k]∧TrO S ok w v o
theorem RpAt.ext {w0:World}{g:Nat}{ok:Int→Prop}{S:World→Nat→List Int→Prop}(M:Mo w0 g ok S){w w':World}{gr k:Nat}{o:Option Sh}(h:RpAt S ok w gr g o k)(x:Ext w w'):RpAt S ok w' gr g o k:=by
 obtain⟨v,hb,ht⟩:=h;exact⟨v,hb.ext x,ht.ext M x⟩
def RetRp (S:World→Nat→List Int→Prop)(ok:Int→Prop)(g:Nat)(o:Option Sh)(k:Nat)(w:World)(e:Ending)(w':World):Prop:=∃gr,e=.returned (.tuple #[.pointer (some ⟨gr,0,none⟩),.int .i64 0])∧RpAt S ok w' gr g o k∧Ext w w'
theorem rope_any {w0:World}{g:Nat}{ok:Int→Prop}{S:World→Nat→List Int→Prop}(M:Mo w0 g ok S)(w:World)(gb k:Nat)(hb:BdAt w gb g k)(v:Value)(o:Option Sh)(h:TrO S ok w v o) :
 Calls Tryz.prog 93 #[.pointer (some ⟨gb,0,none⟩),v] w (RetRp S ok g o k w):=by
 obtain⟨b0,b1,b2,_⟩:=Blk.c3 hb;have d0:=kc0 b0;have d1:=kc0 b1;have hv:v=.nilIface∨∃T p,v=.iface T (.pointer p):=by
  cases o with
  | none=>exact .inl h
  | some t=>obtain⟨T,b,s1,K1,K2,K3,e,_⟩:=h.at_.meth;exact .inr ⟨T,_,e⟩
 rcases hv with rfl|⟨T,p,rfl⟩
 all_goals
  go_enter Tryz.func93,Tryz.ntmps93
  go_upto_region 3 with fail
  refine Xr.start [] kr ?_;refine Xtk 0 ?_
  iterate 9(refine Xtn ?_)
  refine Xsp 10 fun w1 hE1 hK1 K hKK=>?_;go_simp;have XN:=fun o=>Ext.alloc w1 o;refine hKK _ _ (KpP.of_ext (XN _)) (hK1.ext (XN _)) ?_;clear hKK;refine ptm ?_;have BN:=fun v=>Blk.new w1 176 #[.pointer (some ⟨g,0,none⟩),v,.int .i64 k];refine Xtk 11 ?_;refine Xtn ?_;refine Xdn fun w2 hE2 hK2=>?_
  go_wp2_with fail
  go_ret2
  exact⟨w1.heap.size,rfl,⟨_,(BN _).ext hE2,h.ext M hK2.nil⟩,hK2.nil⟩
theorem onew_nil (w:World)(A:Option Addr)(n c:Nat):Calls Tryz.prog 45 #[.pointer none,.slice A n c] w (RetV (.tuple #[.pointer none,.int .i64 1]) w):=by
 go_enter Tryz.func45,Tryz.ntmps45
 go_wp2
 go_ret2
 exact⟨rfl,Ext.rfl' _⟩
theorem onew_long (w:World)(g:Nat)(A:Option Addr)(n c:Nat)(hn:65536<n)(hc:n≤c∧c≤9223372036854775807):Calls Tryz.prog 45 #[.pointer (some ⟨g,0,none⟩),.slice A n c] w (RetV (.tuple #[.pointer none,.int .i64 4]) w):=by
 have hI:(n:Int)>65536:=om;have hJ:(65536:Int)<n:=om;go_enter Tryz.func45,Tryz.ntmps45
 go_wp2
 go_ret2
 exact⟨rfl,Ext.rfl' _⟩
theorem IL.ne {w:World}{A:Option Addr}{c:Nat}{xs:List Int}(h:IL w A c xs)(h0:xs≠[]){gb:Nat}(hg:w.heap.size≤gb):NeA gb A:=fun b hb e=>by
 subst e;obtain⟨b',o,rfl,hc⟩:=h.at_ h0;cases hb
 have h1:=hc 0 (List.length_pos_iff.2 h0);have h2:w.heap[b']? = none:=Array.getElem?_eq_none hg;simp[World.cell?,h2] at h1
theorem onew_any {w0:World}{g:Nat}{ok:Int→Prop}{S:World→Nat→List Int→Prop}(M:Mo w0 g ok S)(w:World)(x0:Ext w0 w)(A:Option Addr)(c:Nat)(ts:List Int)(hi:IL w A c ts)(okt:∀x∈ts,ok x)(htl:ts.length≤65536) :
 Calls Tryz.prog 45 #[.pointer (some ⟨g,0,none⟩),.slice A ts.length c] w (RetRp S ok g (treeS ts).1 (treeS ts).2 w):=by
 have XN:=Ext.alloc w (.cells #[.pointer (some ⟨g,0,none⟩),.int .i64 0,.int .i64 0] 170);have BN:BdAt (w.alloc (.cells #[.pointer (some ⟨g,0,none⟩),.int .i64 0,.int .i64 0] 170)) w.heap.size g 0:=Blk.new w 170 #[.pointer (some ⟨g,0,none⟩),.int .i64 0,.int .i64 0];obtain⟨w1,hw1⟩:∃w1,w1=w.alloc (.cells #[.pointer (some ⟨g,0,none⟩),.int .i64 0,.int .i64 0] 170):=⟨_,rfl⟩;obtain⟨gb,hgb⟩:∃gb,gb=w.heap.size:=⟨_,rfl⟩
 rw[←hw1] at XN BN
 rw[←hgb] at BN;have hgb0:w0.heap.size≤gb:=by rw[hgb];exact x0.size
 have HT:=lh (tree_any M gb hgb0 w1 (x0.trans XN) 0 BN om A c ts (hi.ext XN) (fun h=>hi.ne h om) okt htl);rw[Nat.zero_add] at HT;have HXN:=lh (And.intro XN (Nat.le_of_eq hgb.symm));have hcap:=hi.len;have hI:¬(ts.length:Int)>65536:=om;have hJ:¬(65536:Int)<ts.length:=om;have HW:=lh hw1;have HG:=lh hgb;generalize treeS ts=q at *;clear hi okt hw1 hgb XN BN;go_enter Tryz.func45,Tryz.ntmps45
 go_upto_region 6 with fail
 rw[←HW.out,←HG.out]
 go_wp2_with (first|(have hq:=HRR;go_at_call 93;refine HRR.out.mono ?_;rintro e w3 ⟨gr,rfl,hr3,x3⟩)|(go_at_call 94;refine HT.out.mono ?_;rintro e w2 ⟨v2,rfl,t2,b2,k2⟩;have HRR:=lh (rope_any M w2 gb _ b2 v2 _ t2)))
 go_ret2
 exact⟨gr,rfl,hr3,(Ext.kp HXN.out.1 k2 (fun i hi=>by rw[hi];exact HXN.out.2)).trans x3⟩
theorem olen_any {S:World→Nat→List Int→Prop}{ok:Int→Prop}(w:World)(gr g k:Nat)(o:Option Sh)(h:RpAt S ok w gr g o k):Calls Tryz.prog 51 #[.pointer (some ⟨gr,0,none⟩)] w (RetE (.int .i64 (txtO o).length) w):=by
 obtain⟨v,hb,ht⟩:=h;obtain⟨b0,b1,b2,_⟩:=hb.c3
 cases o with
 | none=>
  subst ht;go_enter Tryz.func51,Tryz.ntmps51
  go_wp2
  go_ret
  exact⟨rfl,rfl⟩
 | some t=>
  obtain⟨T,b,s1,K1,K2,K3,rfl,hm,_⟩:=ht.at_.meth;have n1:=hm.size.nil_;have n2:=hm.size.mth;have n3:=hm.size.ent;have HS:=lh (hm.size.call w (Ext.rfl' _));go_enter Tryz.func51,Tryz.ntmps51
  go_wp2_with (refine HS.out.mono ?_;rintro e w1 ⟨rfl,rfl⟩)
  go_ret
  exact⟨rfl,rfl⟩
theorem oheight_any {S:World→Nat→List Int→Prop}{ok:Int→Prop}(w:World)(gr g k:Nat)(o:Option Sh)(h:RpAt S ok w gr g o k):Calls Tryz.prog 48 #[.pointer (some ⟨gr,0,none⟩)] w (RetE (.int .i64 (hgtO o)) w):=by
 obtain⟨v,hb,ht⟩:=h;obtain⟨b0,b1,b2,_⟩:=hb.c3
 cases o with
 | none=>
  subst ht;go_enter Tryz.func48,Tryz.ntmps48
  go_wp2
  go_ret
  exact⟨rfl,rfl⟩
 | some t=>
  obtain⟨T,b,s1,K1,K2,K3,rfl,hm,_⟩:=ht.at_.meth;have n1:=hm.height.nil_;have n2:=hm.height.mth;have n3:=hm.height.ent;have HS:=lh (hm.height.call w (Ext.rfl' _));go_enter Tryz.func48,Tryz.ntmps48
  go_wp2_with (refine HS.out.mono ?_;rintro e w1 ⟨rfl,rfl⟩)
  go_ret
  exact⟨rfl,rfl⟩
theorem omade_any {S:World→Nat→List Int→Prop}{ok:Int→Prop}(w:World)(gr g k:Nat)(o:Option Sh)(h:RpAt S ok w gr g o k):Calls Tryz.prog 46 #[.pointer (some ⟨gr,0,none⟩)] w (RetE (.int .i64 k) w):=by
 obtain⟨v,hb,ht⟩:=h;obtain⟨b0,b1,b2,_⟩:=hb.c3;go_enter Tryz.func46,Tryz.ntmps46
 go_wp2
 go_ret
 exact⟨rfl,rfl⟩
theorem osum_any {w0:World}{g:Nat}{ok:Int→Prop}{S:World→Nat→List Int→Prop}(M:Mo w0 g ok S)(w:World)(x0:Ext w0 w)(gr k:Nat)(o:Option Sh)(h:RpAt S ok w gr g o k) :
 Calls Tryz.prog 59 #[.pointer (some ⟨gr,0,none⟩)] w (fun e w'=>∃gs,e=.returned (.pointer (some ⟨gs,0,none⟩))∧S w' gs (txtO o)∧Ext w w'):=by
 obtain⟨v,hb,ht⟩:=h;obtain⟨b0,b1,b2,_⟩:=hb.c3
 cases o with
 | none=>
  subst ht;have HE:=lh (M.emp w x0);go_enter Tryz.func59,Tryz.ntmps59
  go_wp2_with (go_at_call 35;refine HE.out.mono ?_;rintro e w1 ⟨gs,rfl,hs,x1⟩)
  go_ret
  exact⟨gs,rfl,hs,x1⟩
 | some t=>
  obtain⟨T,b,s1,K1,K2,K3,rfl,hm,hs⟩:=ht.at_.meth;have n1:=hm.sum.nil_;have n2:=hm.sum.mth;have n3:=hm.sum.ent;have HS:=lh (hm.sum.call w (Ext.rfl' _));go_enter Tryz.func59,Tryz.ntmps59
  go_wp2_with (refine HS.out.mono ?_;rintro e w1 ⟨rfl,rfl⟩)
  go_ret
  exact⟨s1,rfl,hs,Ext.rfl' _⟩
end
section
open Go.RowKit Go.Shelf
attribute [local go_sem ↓] Go.wp_at_zero Go.wp_at_succ
attribute [local go_sem] Oper.semAt_some
theorem Ext.ofB {wB W W':World}(x:Ext wB W)(h:Below wB.heap.size W W'):Ext wB W':=Below.trans x h
theorem YdOk.of {wB:World}{l N n:Nat}{J Jx:List Int→World→Prop}(hY:∀pre x W1,J pre W1→pre.length<N→YieldAt Fence.wide n Tryz.prog l #[Value.int .i64 x] W1 fun e W'=>
 (e=.returned (.bool true)∧J (pre++[x]) W'∧Below wB.heap.size W1 W')∨(e=.returned (.bool false)∧Jx (pre++[x]) W')):YdOk wB l N J Jx:=fun pre x W x0 hj hl m=>
 YieldAt.anyD rfl m (YieldAt.mono (hY pre x W hj hl) fun e W' h=>h.elim (fun⟨he,hj',hb⟩=>.inl ⟨he,hj',x0.ofB hb⟩) .inr)
theorem syms1_any {w0 wB:World}{g:Nat}{S:World→Nat→List Int→Prop}{ok:Int→Prop}{l N:Nat}{J Jx:List Int→World→Prop}(M:Mo w0 g ok S)(hY:YdOk wB l N J Jx)(gr k:Nat)(o:Option Sh)(h:RpAt S ok wB gr g o k)(b1 b2 b3:Nat)(f t:Int)
 (c1:wB.cell? ⟨b1,0,none⟩=some (.pointer (some ⟨gr,0,none⟩))) (c2:wB.cell? ⟨b2,0,none⟩=some (.int .i64 f)) (c3:wB.cell? ⟨b3,0,none⟩=some (.int .i64 t)) (hf:0≤f∧f≤1000000) (ht:0≤t∧t≤1000000) (W:World) (x0:Ext wB W) (hJ:∀W',Ext W W'→J [] W') (hN:(segI (txtO o) f t).length≤N) :
 Calls Tryz.prog 142 #[.func (.yield l) #[] #[],.pointer (some ⟨b1,0,none⟩),.pointer (some ⟨b2,0,none⟩),.pointer (some ⟨b3,0,none⟩)] W
  (fun e W'=>(∃v,e=.returned v)∧(J (segI (txtO o) f t) W'∨∃pre,pre <+: segI (txtO o) f t∧Jx pre W')):=by
 obtain⟨v,hb,hv⟩:=h;have d1:=x0.cell c1;have d2:=x0.cell c2;have d3:=x0.cell c3;have d4:W.cell? ⟨gr,1,none⟩=some v:=x0.cell (hb.cell 1);clear c1 c2 c3 hb
 cases o with
 | none=>
  have hv':v=.nilIface:=hv;subst hv';have e0:segI (txtO none) f t=[]:=by simp[txtO,segI]
  rw[e0];clear hv e0 hN;go_enter Tryz.func142,Tryz.ntmps142
  go_wp2
  exact bodyPost_end (v:=.tuple #[]) (by simp[results,Tryz.results142,go_sem]) rfl ⟨⟨_,rfl⟩,.inl (hJ _ (Ext.rfl' _))⟩
 | some T=>
  have hv':Tr S ok wB v T:=hv;have hn:=hv'.n;have HW:=lh (fun(W':World) (x:Ext W W')=>walk_any M hY T v hv' f t om om [] W' (x0.trans x) (hJ W' x) (by simpa[txtO] using hN));have et:txtO (some T)=T.text:=rfl;rw[et];obtain⟨T1,q1,s1,K1,K2,K3,rfl,_⟩:=hv'.at_.meth;clear hv hv' hN et hn;generalize segI T.text f t=xs at *;go_enter Tryz.func142,Tryz.ntmps142
  go_upto_region 1 with fail
  have j1:=kx0 d1;have j2:=kx0 d2;have j3:=kx0 d3;have j4:=kx0 d4;refine Xe.start 7 kr ?_;refine Xet 0 ?_;refine Xet 1 ?_;refine Xet 2 ?_;refine Xet 3 ?_;refine Xet 4 ?_;refine Xet 5 ?_;refine Xet 6 ?_;refine Xe.last rfl dK (by rfl) (fun w' hE hE0 K hKK=>?_);go_simp;refine(HW.out w' hE0).mono ?_;rintro e W1 (⟨rfl,hJ1,x1⟩|⟨rfl,q,hq,hx1⟩)
  ·refine hKK _ _ ?_;clear hKK HW hJ hY
   go_wp2
   exact bodyPost_end (v:=.tuple #[]) (by simp[results,Tryz.results142,go_sem]) rfl ⟨⟨_,rfl⟩,.inl hJ1⟩
  ·refine hKK _ _ ?_;clear hKK HW hJ hY
   go_wp2
   exact bodyPost_end (v:=.tuple #[]) (by simp[results,Tryz.results142,go_sem]) rfl ⟨⟨_,rfl⟩,.inr ⟨q,hq,hx1⟩⟩
theorem grown_ext {w w':World}(x:Ext w w'):w.grownBy w' none:=⟨x.os,x.tape,x.output,x.size,fun k hk _=>x.block k hk⟩
theorem syms_stops {w0 wB:World}{g:Nat}{S:World→Nat→List Int→Prop}{ok:Int→Prop}(M:Mo w0 g ok S)(n:Nat)(gr k:Nat)(o:Option Sh)(h:RpAt S ok wB gr g o k)(b1 b2 b3:Nat)(f t:Int)
 (c1:wB.cell? ⟨b1,0,none⟩=some (.pointer (some ⟨gr,0,none⟩))) (c2:wB.cell? ⟨b2,0,none⟩=some (.int .i64 f)) (c3:wB.cell? ⟨b3,0,none⟩=some (.int .i64 t)) (hf:0≤f∧f≤1000000) (ht:0≤t∧t≤1000000) :
 SeqStopsK Fence.wide n Tryz.prog 142 #[.pointer (some ⟨b1,0,none⟩),.pointer (some ⟨b2,0,none⟩),.pointer (some ⟨b3,0,none⟩)] (fun x:Int=>#[Value.int .i64 x]) (Below wB.heap.size) (fun ys=>ys=segI (txtO o) f t) (fun pre=>pre <+: segI (txtO o) f t) (segI (txtO o) f t).length wB:=fun l J Jx W hW hJ hJx hY h0=>
 callsIn_wide.2 ((syms1_any M (YdOk.of hY) gr k o h b1 b2 b3 f t c1 c2 c3 hf ht W hW (fun W' x=>hJ [] W W' none h0 (grown_ext x) (fun r e=>by cases e)) (Nat.le_refl _)).mono (by
  rintro e W' ⟨hv,hJ'|hJ'⟩
  ·exact⟨hv,.inl ⟨_,rfl,hJ'⟩⟩
  ·exact⟨hv,.inr hJ'⟩))
theorem appendSeq_any (w:World)(gf:Nat)(lb:Array Value)(eg:∀args w,(callFunc gf args).run Tryz.prog w=.ok (.enter gf args) w)(xs:List Int)(Sp:List Int→Prop)(hN:xs.length≤1000000)(hr:∀x∈xs,I64 x)
 (hseq:SeqStopsK Fence.wide 4 Tryz.prog gf lb (fun x:Int=>#[Value.int .i64 x]) (Below w.heap.size) (fun ys=>ys=xs) Sp xs.length w) :
 Calls Tryz.prog 141 #[.slice none 0 0,.func (.func gf) #[] lb] w (RetOI xs w):=by
 obtain⟨i0,hi,hz0,hz1,hz2⟩:=info_parts infoInt;refine(callsIn_wide (n:=5)).1 ?_;refine callsIn_of_wp_marks Tryz.func141 rfl trivial ?_ rfl;simp only[Tryz.ntmps141,List.size_toArray,List.length_cons,List.length_nil,Nat.reduceAdd,Nat.reduceSub,Array.replicate_succ,Array.replicate_zero,List.push_toArray,List.append_toArray,List.nil_append,List.cons_append]
 gi_wp2
 have bO:=Boxed.new w 22 (.slice none 0 0);have hB0:Below w.heap.size w (w.alloc (.cells #[.slice none 0 0] 22)):=(Below.refl _ w).alloc (Nat.le_refl _) _;refine wpIn_rangeFunc_ownG rfl de (gf:=gf) (lb:=lb) rfl trivial eg hseq belowK_t (belowK_b si) hB0 (fun _=>rfl)
  (fun pre W=>(∃v,Boxed W w.heap.size 22 v∧W.ownsRow w.heap.size 3 1 v pre.length (pre.map (Value.int .i64))∧True)∧Below w.heap.size w W)
  (fun _ _ _=>False)
  (OwnFrom.and (Own.from (holdsRow_own w.heap.size w.heap.size 22 3 1 (fun pre:List Int=>pre.length) (fun pre=>pre.map (Value.int .i64)) (fun pre v=>True)) _) (ownFrom_below (Nat.le_refl _) si))
  (fun _ _ _ _ _ hs _ _=>hs)
  ⟨⟨_,bO,World.ownsRow_nil _ _ _ _,trivial⟩,hB0⟩
  (fun x=>{ tmps:=#[.slice none 0 0,.func (.func gf) #[] lb,.pointer (some ⟨w.heap.size,0,none⟩),undef,.slice none 0 0,.int .i64 x,.func (.func gf) #[] lb,.int .i64 x,undef,undef,undef,undef,undef],defers:=[] }) ?assign ?body ?done ?stop
 case assign=>
  intro l x W K hK
  gi_wp2
  exact hK
 case body=>
  rintro l pre x W ⟨⟨v,hv,hrow,_⟩,hB⟩ hlt;have hc:=hv.cell
  gi_wp2_with (gi_at_builtin;refine wpListIn_append_own _ rfl _ _ 22 rfl w.heap.size 3 i0 (.int .i64 0) 1 8 Tryz.underlying22 hi hz0 hz1 hz2 rfl de _ _ _ rfl (hrow.alloc _) ⟨W.heap.size,0,none⟩ 1 1 [.int .i64 x] rfl rfl (cell_one_new _ _ _) (by simp[Value.oneCell']) um om (by have:=hB.size;simp;omega) ?_;intro v' w1 hown' hgrow _;obtain⟨g',cap',rfl⟩:=ownsRow_succ hown';obtain⟨hv1,hv2,hr2,hk2,hb2⟩:=hv.appended de hrow hB.size (Nat.le_refl _) hown' hgrow;have hc1:=hv1.cell;have hf1:=hv1.frozen)
  exact⟨hk2.from _,hb2,⟨_,hv2,by simpa using hr2,trivial⟩,hB.trans hb2⟩
 case done=>
  rintro D ys W hD rfl ⟨⟨v,hv,hrow,_⟩,hB⟩ hK;have hc:=hv.cell
  gi_wp2
  refine⟨by simp,.inl ⟨_,_,rfl,run_takeDeferred hK,?_⟩⟩;have hrow2:=ownsRow_putObj hrow (.deferred none) hK rfl;have hx2:=hB.trans (belowK_b (w:=w) (Nat.le_refl _) W D _ (.deferred none) (by simp at hD;omega) hK rfl rfl);obtain⟨A,c,rfl⟩:∃A c,v=.slice A ys.length c:=by
   rcases hrow.2 with⟨e,e2⟩|⟨g',cap,cur,e,_⟩
   ·exact⟨none,0,by rw[e,e2]⟩
   ·exact⟨_,_,e⟩
  exact⟨_,results_tmp rfl _ _ _,A,c,rfl,hrow2,hr,hx2⟩
 case stop=>
  rintro D c pre W _ _ h _;exact h.elim
theorem RtAt.rng {S:World→Nat→List Int→Prop}{w:World}:∀{t:Sh} {v:Value},RtAt S w v t→∀x∈t.text,I64 x
 | .lf _,_,⟨_,_,_,_,_,_,hi,_,_⟩=>fun x hx=>hi.rng x hx
 | .nd _ _,_,⟨_,_,_,_,_,_,h1,h2,_⟩=>fun x hx=>by
  rcases List.mem_append.1 hx with hx|hx
  ·exact RtAt.rng h1 x hx
  ·exact RtAt.rng h2 x hx
theorem RpAt.rng {S:World→Nat→List Int→Prop}{ok:Int→Prop}{w:World}{gr g k:Nat}{o:Option Sh}(h:RpAt S ok w gr g o k):∀x∈txtO o,I64 x:=by
 obtain⟨v,_,hv⟩:=h
 cases o with
 | none=>intro x hx;cases hx
 | some t=>exact RtAt.rng (Tr.at_ hv)
theorem segI_mem {ts:List Int}{f t x:Int}(h:x∈segI ts f t):x∈ts:=List.mem_of_mem_take (List.mem_of_mem_drop h)
theorem segI_all (ts:List Int):segI ts 0 ts.length=ts:=by simp[segI]
theorem syms_any (w:World)(gr:Nat)(f t:Int):Calls Tryz.prog 101 #[.pointer (some ⟨gr,0,none⟩),.int .i64 f,.int .i64 t] w
 (fun e w'=>∃b1 b2 b3,e=.returned (.func (.func 142) #[] #[.pointer (some ⟨b1,0,none⟩),.pointer (some ⟨b2,0,none⟩),.pointer (some ⟨b3,0,none⟩)])∧w'.cell? ⟨b1,0,none⟩=some (.pointer (some ⟨gr,0,none⟩))∧w'.cell? ⟨b2,0,none⟩=some (.int .i64 f)∧w'.cell? ⟨b3,0,none⟩=some (.int .i64 t)∧Ext w w'):=by
 obtain⟨B1,B2,B3,X⟩:=alloc3 w 94 #[.pointer (some ⟨gr,0,none⟩)] 3 #[.int .i64 f] 3 #[.int .i64 t];have HB1:=lh B1;have HB2:=lh B2;have HB3:=lh B3;have HX:=lh X;clear B1 B2 B3 X;go_enter Tryz.func101,Tryz.ntmps101
 go_wp2
 go_ret
 exact⟨_,_,_,rfl,HB1.out.c1.1,HB2.out.c1.1,HB3.out.c1.1,HX.out⟩
theorem collect_any (w:World)(gf:Nat)(lb:Array Value)(eg:∀args w,(callFunc gf args).run Tryz.prog w=.ok (.enter gf args) w)(xs:List Int)(Sp:List Int→Prop)(hN:xs.length≤1000000)(hr:∀x∈xs,I64 x)
 (hseq:SeqStopsK Fence.wide 4 Tryz.prog gf lb (fun x:Int=>#[Value.int .i64 x]) (Below w.heap.size) (fun ys=>ys=xs) Sp xs.length w) :
 Calls Tryz.prog 100 #[.func (.func gf) #[] lb] w (RetOI xs w):=by
 have H:=lh (appendSeq_any w gf lb eg xs Sp hN hr hseq);clear hseq hr;go_enter Tryz.func100,Tryz.ntmps100
 go_wp2_with (go_at_call 141;refine H.out.mono ?_;rintro e w1 ⟨A,c,rfl,ho,hi,x1⟩)
 go_ret
 exact⟨A,c,rfl,ho,hi,x1⟩
theorem OwnS.lowB {w:World}{base base' e size n c:Nat}{A:Option Addr}{xs:List Value}(h:OwnS w base' e size A n c xs)(hb:base≤base'):OwnS w base e size A n c xs:=by
 refine⟨h.1,?_⟩;rcases h.2 with h2|⟨g,cap,cur,hv,hg,r⟩
 ·exact Or.inl h2
 ·exact Or.inr ⟨g,cap,cur,hv,Nat.le_trans hb hg,r⟩
theorem otext_any {w0:World}{g:Nat}{S:World→Nat→List Int→Prop}{ok:Int→Prop}(M:Mo w0 g ok S)(w:World)(gr k:Nat)(o:Option Sh)(h:RpAt S ok w gr g o k)(hl:(txtO o).length≤65536):Calls Tryz.prog 55 #[.pointer (some ⟨gr,0,none⟩)] w (RetOI (txtO o) w):=by
 have HL:=lh (olen_any w gr g k o h);have HS:=lh (syms_any w gr 0 (txtO o).length);have HC:=fun(w1:World) (x:Ext w w1) (b1 b2 b3:Nat) (c1:w1.cell? ⟨b1,0,none⟩=some (.pointer (some ⟨gr,0,none⟩))) (c2:w1.cell? ⟨b2,0,none⟩=some (.int .i64 0)) (c3:w1.cell? ⟨b3,0,none⟩=some (.int .i64 (txtO o).length))=>
  lh (collect_any w1 142 #[.pointer (some ⟨b1,0,none⟩),.pointer (some ⟨b2,0,none⟩),.pointer (some ⟨b3,0,none⟩)] Tryz.call142 (segI (txtO o) 0 (txtO o).length) _ (by rw[segI_all];omega) (fun x hx=>h.rng x (segI_mem hx)) (syms_stops M 4 gr k o (h.ext M x) b1 b2 b3 0 (txtO o).length c1 c2 c3 om om))
 rw[segI_all] at HC;clear h;generalize txtO o=ts at *;go_enter Tryz.func55,Tryz.ntmps55
 go_wp2_with (first|(go_at_call 51;refine HL.out.mono ?_;clear HL;rintro e wa ⟨rfl,rfl⟩)|(go_at_call 101;refine HS.out.mono ?_;clear HS;rintro e w1 ⟨b1,b2,b3,rfl,c1,c2,c3,x1⟩)|(go_at_call 100;refine(HC w1 x1 b1 b2 b3 c1 c2 c3).out.mono ?_;rintro e w2 ⟨A,c,rfl,ho,hi,x2⟩))
 go_ret
 have ho':OwnI w2 w.heap.size 3 A c ts:=OwnS.lowB ho x1.size;exact⟨A,c,rfl,ho',hi,x1.trans x2⟩
def RetSg (xs:List Int)(w:World)(e:Ending)(w':World):Prop:=∃(A:Option Addr) (c:Nat),e=.returned (.tuple #[.slice A xs.length c,.int .i64 0])∧OwnI w' w.heap.size 3 A c xs∧(∀x∈xs,I64 x)∧Ext w w'
theorem oslice_any {w0:World}{g:Nat}{S:World→Nat→List Int→Prop}{ok:Int→Prop}(M:Mo w0 g ok S)(w:World)(gr k:Nat)(o:Option Sh)(h:RpAt S ok w gr g o k)(hl:(txtO o).length≤65536)(a b:Nat)(hab:a≤b)(hb:b≤(txtO o).length):Calls Tryz.prog 57 #[.pointer (some ⟨gr,0,none⟩),.int .i64 a,.int .i64 b] w (RetSg (((txtO o).take b).drop a) w):=by
 have HL:=lh (olen_any w gr g k o h);have HS:=lh (syms_any w gr a b);have hlen:(segI (txtO o) a b).length≤65536:=Nat.le_trans (segI_len _ _ _) hl;have HC:=fun(w1:World) (x:Ext w w1) (b1 b2 b3:Nat) (c1:w1.cell? ⟨b1,0,none⟩=some (.pointer (some ⟨gr,0,none⟩))) (c2:w1.cell? ⟨b2,0,none⟩=some (.int .i64 a)) (c3:w1.cell? ⟨b3,0,none⟩=some (.int .i64 b))=>
  lh (collect_any w1 142 #[.pointer (some ⟨b1,0,none⟩),.pointer (some ⟨b2,0,none⟩),.pointer (some ⟨b3,0,none⟩)] Tryz.call142 (segI (txtO o) a b) _ om (fun x hx=>h.rng x (segI_mem hx)) (syms_stops M 4 gr k o (h.ext M x) b1 b2 b3 a b c1 c2 c3 om om))
 have e1:((txtO o).take b).drop a=segI (txtO o) a b:=by simp[segI]
 rw[e1];have hbI:¬(b:Int)>((txtO o).length:Int):=om;have haI:¬(b:Int)<(a:Int):=om;have hlI:=hl;clear h e1 hlen;generalize segI (txtO o) a b=ts at *;generalize (txtO o).length=L at *;go_enter Tryz.func57,Tryz.ntmps57
 go_wp2_with (first|(go_at_call 51;refine HL.out.mono ?_;clear HL;rintro e wa ⟨rfl,rfl⟩)|(go_at_call 101;refine HS.out.mono ?_;clear HS;rintro e w1 ⟨b1,b2,b3,rfl,c1,c2,c3,x1⟩)|(go_at_call 100;refine(HC w1 x1 b1 b2 b3 c1 c2 c3).out.mono ?_;rintro e w2 ⟨A,c,rfl,ho,hi,x2⟩))
 go_ret2
 have ho':OwnI w2 w.heap.size 3 A c ts:=OwnS.lowB ho x1.size;exact⟨A,c,rfl,ho',hi,x1.trans x2⟩
theorem oslice_bad {S:World→Nat→List Int→Prop}{ok:Int→Prop}{g:Nat}(w:World)(gr k:Nat)(o:Option Sh)(h:RpAt S ok w gr g o k)(hl:(txtO o).length≤65536)(a b:Int)(hab:a<0∨b<a∨((txtO o).length:Int)<b):Calls Tryz.prog 57 #[.pointer (some ⟨gr,0,none⟩),.int .i64 a,.int .i64 b] w (RetE (.tuple #[.slice none 0 0,.int .i64 5]) w):=by
 have HL:=lh (olen_any w gr g k o h);clear h;generalize (txtO o).length=L at *;by_cases h1:a<0
 ·go_enter Tryz.func57,Tryz.ntmps57
  go_wp2_with fail
  go_ret2
  exact⟨rfl,rfl⟩
 ·by_cases h2:b<a
  ·go_enter Tryz.func57,Tryz.ntmps57
   go_wp2_with fail
   go_ret2
   exact⟨rfl,rfl⟩
  ·have h3:(b:Int)>(L:Int):=om;clear hab;go_enter Tryz.func57,Tryz.ntmps57
   go_wp2_with (go_at_call 51;refine HL.out.mono ?_;clear HL;rintro e wa ⟨rfl,rfl⟩)
   go_ret2
   exact⟨rfl,rfl⟩
end
end Go.Proofs.YtmocoldobnimfaaGreat
