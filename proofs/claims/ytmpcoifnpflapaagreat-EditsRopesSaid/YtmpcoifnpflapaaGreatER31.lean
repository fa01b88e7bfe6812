/- Texts of this proof: R7 R9 RA OY RJ. -/
import Derived.Test.YtmpcoifnpflapaaGreatER28
import Derived.RangeFuncBox
import Derived.RangeFuncWrites
import Derived.RangeFuncFrom
import Derived.RangeFuncBound
import Derived.RangeFuncLeaves
import Derived.Shelf.Abstract
import Derived.OwnWalkIn
import Derived.TacticsInMore
import Derived.LoopNIn
import Derived.LoopIn
import Derived.Maps.AppendAt
set_option linter.all false
set_option maxRecDepth 100000
set_option maxHeartbeats 8000000
namespace Go.Proofs.YtmpcoifnpflapaaGreat
section
open Go.RowKit
attribute [local go_sem ↓] Go.wp_at_zero Go.wp_at_succ
theorem head_left {w0:World}{g:Nat}{ok:Int->Prop}{S:World->Nat->List Int->Prop}(w:World)(x0:Ext w0 w)(gb k:Nat)(hb:BdAt w gb g k)(v:Value)(l r:Sh)(n:Nat)(h:Tr S ok w v (.nd l r))(hn:n<l.text.length)(o:Option Sh)(bf:List Int)(q:Nat)
 (HC:∀v',Tr S ok w v' l->Calls Tryz.prog 86 #[.pointer (some ⟨gb,0,none⟩),v',.int .i64 n] w (RetHd S ok gb g q o bf w)) :
 Calls Tryz.prog 86 #[.pointer (some ⟨gb,0,none⟩),v,.int .i64 n] w (RetHd S ok gb g q o bf w):=by
 obtain⟨b,vl,vr,gs,rfl,hbl,hl,hr⟩:=h.nd;obtain⟨T1,b1,s1,K1,K2,K3,rfl,hm1,hs1⟩:=hl.at_.meth;have c0:w.cell? ⟨b,0,none⟩=some (.iface T1 (.pointer (some ⟨b1,0,none⟩))):=hbl.cell 0;have n1:=hm1.size.nil_;have n2:=hm1.size.mth;have n3:=hm1.size.ent;have HM1:=lh hm1;have ta:=asIn;have tb:=asInLf;have S0:=Ext.rfl' w;have hnI:(n:Int)<(l.text.length:Int):=om;have H:=lh (HC _ hl);have hln:=hl.n;clear HC hm1 hl hr hs1 h hn hbl;unfold inV;go_enter Tryz.func86,Tryz.ntmps86
 go_upto_region 8 with(go_at_fn K1;refine(HM1.out.size.call _ S0).mono ?_;rintro e wa ⟨rfl,rfl⟩)
 go_wp2_with (go_at_call 86;refine H.out.mono ?_;rintro e w1 ⟨v',A,c,rfl,k1⟩)
 go_ret2
 exact⟨v',A,c,rfl,k1⟩
theorem head_right {w0:World}{g:Nat}{ok:Int->Prop}{S:World->Nat->List Int->Prop}(M:Mo w0 g ok S)(w:World)(x0:Ext w0 w)(gb k:Nat)(hgb:w0.heap.size<=gb)(hb:BdAt w gb g k)(v:Value)(l r:Sh)(n:Nat)(h:Tr S ok w v (.nd l r))(hn:l.text.length<=n)(hn2:n<=1000000)(o:Option Sh)(bf:List Int)(q:Nat)(hq:q<=800000)(al:Sh.Av l)(ao:AvO o)(ht:l.text.length+(txtO o).length<=65536)
 (HC:∀w',Ext w w'->∀v',Tr S ok w' v' r->Calls Tryz.prog 86 #[.pointer (some ⟨gb,0,none⟩),v',.int .i64 (n-l.text.length:Nat)] w' (RetHd S ok gb g q o bf w')) :
 Calls Tryz.prog 86 #[.pointer (some ⟨gb,0,none⟩),v,.int .i64 n] w (RetHd S ok gb g (q+(catO (some l) o).2) (catO (some l) o).1 bf w):=by
 obtain⟨b,vl,vr,gs,rfl,hbl,hl,hr⟩:=h.nd;obtain⟨T1,b1,s1,K1,K2,K3,rfl,hm1,hs1⟩:=hl.at_.meth;have c0:w.cell? ⟨b,0,none⟩=some (.iface T1 (.pointer (some ⟨b1,0,none⟩))):=hbl.cell 0;have c1:w.cell? ⟨b,1,none⟩=some vr:=hbl.cell 1;have n1:=hm1.size.nil_;have n2:=hm1.size.mth;have n3:=hm1.size.ent;have HM1:=lh hm1;have ta:=asIn;have tb:=asInLf;have S0:=Ext.rfl' w;have hnI:¬(n:Int)<(l.text.length:Int):=om;have hwr:(n:Int)-(l.text.length:Int)=((n-l.text.length:Nat):Int):=om;obtain⟨a,ha⟩:∃a,a=l.text.length:=⟨_,rfl⟩;obtain⟨d,hd⟩:∃d,d=n-l.text.length:=⟨_,rfl⟩;have hwd:IntKind.i64.wrap (d:Int)=(d:Int):=wj
 rw[<-hd] at HC hwr
 rw[<-ha] at hwr hnI HM1;have hln:=hl.n
 rw[<-ha] at hln;have HC':=fun(w':World) (x:Ext w w')=>lh (HC w' x _ (hr.ext M x));have HBL:=lh hbl;clear HC hm1 hs1 h hn ha hd hbl;unfold inV;go_enter Tryz.func86,Tryz.ntmps86
 go_upto_region 9 with(go_at_fn K1;refine(HM1.out.size.call _ S0).mono ?_;rintro e wa ⟨rfl,rfl⟩)
 have d0:=fun(w':World) (h:Kp [gb] w w')=>h.cell c0 (by simpa using Blk.neT HBL.out hb de);have d1:=fun(w':World) (h:Kp [gb] w w')=>h.cell c1 (by simpa using Blk.neT HBL.out hb de);refine Xr.start [gb] kr ?_;refine Xtk 0 ?_
 iterate 9(refine Xtn ?_)
 refine Xcl 10 fun w1 hE1 hK1 K hKK=>?_;go_simp;refine(HM1.out.size.call w1 hE1).mono ?_;rintro e w2 ⟨rfl,rfl⟩;refine hKK _ _ (Ext.rfl' _) ?_;clear hKK;refine ptm ?_;refine Xr.take 11 (some 53) (v:=.int .i64 d) rfl rfl dK (by rfl) (fun w' hk=>by go_simp) ?_;refine ptm ?_;refine Xsp 12 fun w3 hE3 hK3 K hKK=>?_;go_simp;refine(HC' w3 (hE1.trans hE3)).out.mono ?_;rintro e w5 ⟨v',A,c,rfl,k5⟩;refine hKK _ _ (WI_kp k5.kp si) (hK3.kpP k5.kp si) ?_;clear hKK;refine ptm ?_;refine Xtk 13 ?_
 iterate 4(refine Xtn ?_)
 refine Xdn fun w6 hE6 hK6=>?_;have c6:=d0 w6 hK6;have KK6:=lh hK6.kpPs;have BD6:=lh (k5.bd.ext hE6);have IL6:=lh (k5.il.ext hE6);have TY6:=lh (k5.ty.ext hE6);have HP:=lh (catO_any M gb hgb w6 (KpP.extOf KK6.out x0 hgb) q BD6.out hq _ _ (some l) o (Tr.kp M hl hb KK6.out) (TrO.ext M hE6 k5.tr) al ao ht);clear hE1 hK1 hE3 hK3 hE6 hK6 k5 d0 d1 c0 c1 HC' n1 n2 n3 HM1 hl hr HBL
 go_wp2_with (go_at_call 89;refine HP.out.mono ?_;rintro e w7 ⟨v7,rfl,t7,b7,k7⟩)
 go_ret2
 exact⟨v7,A,c,rfl,t7,IL6.out.kpB TY6.out BD6.out k7,TY6.out.kpP k7 (TyQ.one BD6.out) de,b7,KK6.out.trans k7⟩
theorem tail_right {w0:World}{g:Nat}{ok:Int->Prop}{S:World->Nat->List Int->Prop}(M:Mo w0 g ok S)(w:World)(x0:Ext w0 w)(gb k:Nat)(hb:BdAt w gb g k)(v:Value)(l r:Sh)(n:Nat)(h:Tr S ok w v (.nd l r))(hn:l.text.length<=n)(hn2:n<=1000000)(o:Option Sh)(bf:List Int)(q:Nat)
 (HC:∀w',Ext w w'->∀v',Tr S ok w' v' r->Calls Tryz.prog 87 #[.pointer (some ⟨gb,0,none⟩),v',.int .i64 (n-l.text.length:Nat)] w' (RetTl S ok gb g q o bf w')) :
 Calls Tryz.prog 87 #[.pointer (some ⟨gb,0,none⟩),v,.int .i64 n] w (RetTl S ok gb g q o bf w):=by
 obtain⟨b,vl,vr,gs,rfl,hbl,hl,hr⟩:=h.nd;obtain⟨T1,b1,s1,K1,K2,K3,rfl,hm1,hs1⟩:=hl.at_.meth;have c0:w.cell? ⟨b,0,none⟩=some (.iface T1 (.pointer (some ⟨b1,0,none⟩))):=hbl.cell 0;have c1:w.cell? ⟨b,1,none⟩=some vr:=hbl.cell 1;have n1:=hm1.size.nil_;have n2:=hm1.size.mth;have n3:=hm1.size.ent;have HM1:=lh hm1;have ta:=asIn;have tb:=asInLf;have S0:=Ext.rfl' w;have hnI:(l.text.length:Int)<=(n:Int):=om;have hwr:(n:Int)-(l.text.length:Int)=((n-l.text.length:Nat):Int):=om;obtain⟨a,ha⟩:∃a,a=l.text.length:=⟨_,rfl⟩;obtain⟨d,hd⟩:∃d,d=n-l.text.length:=⟨_,rfl⟩;have hwd:IntKind.i64.wrap (d:Int)=(d:Int):=wj
 rw[<-hd] at HC hwr
 rw[<-ha] at hwr hnI HM1;have hln:=hl.n
 rw[<-ha] at hln;have HC':=fun(w':World) (x:Ext w w')=>lh (HC w' x _ (hr.ext M x));have HBL:=lh hbl;clear HC hm1 hs1 h hn ha hd hbl;unfold inV;go_enter Tryz.func87,Tryz.ntmps87
 go_upto_region 8 with(go_at_fn K1;refine(HM1.out.size.call _ S0).mono ?_;rintro e wa ⟨rfl,rfl⟩)
 have d0:=fun(w':World) (h:Kp [gb] w w')=>h.cell c0 (by simpa using Blk.neT HBL.out hb de);have d1:=fun(w':World) (h:Kp [gb] w w')=>h.cell c1 (by simpa using Blk.neT HBL.out hb de);refine Xr.start [gb] kr ?_;refine Xtk 0 ?_
 iterate 9(refine Xtn ?_)
 refine Xcl 10 fun w1 hE1 hK1 K hKK=>?_;go_simp;refine(HM1.out.size.call w1 hE1).mono ?_;rintro e w2 ⟨rfl,rfl⟩;refine hKK _ _ (Ext.rfl' _) ?_;clear hKK;refine ptm ?_;refine Xr.take 11 (some 43) (v:=.int .i64 d) rfl rfl dK (by rfl) (fun w' hk=>by go_simp) ?_;refine ptm ?_;refine Xsp 12 fun w3 hE3 hK3 K hKK=>?_;go_simp;refine(HC' w3 (hE1.trans hE3)).out.mono ?_;rintro e w5 ⟨v',A,c,rfl,k5⟩;refine hKK _ _ (WI_kp k5.kp si) (hK3.kpP k5.kp si) ?_;clear hKK;refine ptm ?_;refine Xtk 13 ?_
 iterate 3(refine Xtn ?_)
 refine Xdn fun w6 hE6 hK6=>?_
 go_wp2_with fail
 go_ret2
 exact⟨v',A,c,rfl,TrO.ext M hE6 k5.tr,k5.il.ext hE6,k5.ty.ext hE6,k5.bd.ext hE6,hK6.kpPs⟩
theorem tail_left {w0:World}{g:Nat}{ok:Int->Prop}{S:World->Nat->List Int->Prop}(M:Mo w0 g ok S)(w:World)(x0:Ext w0 w)(gb k:Nat)(hgb:w0.heap.size<=gb)(hb:BdAt w gb g k)(v:Value)(l r:Sh)(n:Nat)(h:Tr S ok w v (.nd l r))(hn:n<l.text.length)(o:Option Sh)(bf:List Int)(q:Nat)(hq:q<=800000)(ar:Sh.Av r)(ao:AvO o)(ht:(txtO o).length+r.text.length<=65536)
 (HC:∀v',Tr S ok w v' l->Calls Tryz.prog 87 #[.pointer (some ⟨gb,0,none⟩),v',.int .i64 n] w (RetTl S ok gb g q o bf w)) :
 Calls Tryz.prog 87 #[.pointer (some ⟨gb,0,none⟩),v,.int .i64 n] w (RetTl S ok gb g (q+(catO o (some r)).2) (catO o (some r)).1 bf w):=by
 obtain⟨b,vl,vr,gs,rfl,hbl,hl,hr⟩:=h.nd;obtain⟨T1,b1,s1,K1,K2,K3,rfl,hm1,hs1⟩:=hl.at_.meth;have c0:w.cell? ⟨b,0,none⟩=some (.iface T1 (.pointer (some ⟨b1,0,none⟩))):=hbl.cell 0;have c1:w.cell? ⟨b,1,none⟩=some vr:=hbl.cell 1;have n1:=hm1.size.nil_;have n2:=hm1.size.mth;have n3:=hm1.size.ent;have HM1:=lh hm1;have ta:=asIn;have tb:=asInLf;have S0:=Ext.rfl' w;have hnI:¬(l.text.length:Int)<=(n:Int):=om;have H:=lh (HC _ hl);have HR:=lh hr;have HBL:=lh hbl;have hln:=hl.n;clear HC hm1 hl hr hs1 h hn hbl;unfold inV;go_enter Tryz.func87,Tryz.ntmps87
 go_upto_region 9 with(go_at_fn K1;refine(HM1.out.size.call _ S0).mono ?_;rintro e wa ⟨rfl,rfl⟩)
 clear n1 n2 n3 HM1
 go_upto_region 10 with(go_at_call 87;refine H.out.mono ?_;rintro e w1 ⟨v',A,c,rfl,k1⟩)
 have c6:=(KpP.kps k1.kp).cell c1 (by simpa using Blk.neT HBL.out hb de);have HP:=lh (catO_any M gb hgb w1 (KpP.extOf k1.kp x0 hgb) q k1.bd hq _ _ o (some r) k1.tr (Tr.kp M HR.out hb k1.kp) ao ar ht);have K1':=lh k1;clear k1 c0 c1 H HR HBL
 go_wp2_with (go_at_call 89;refine HP.out.mono ?_;rintro e w7 ⟨v7,rfl,t7,b7,k7⟩)
 go_ret2
 exact⟨v7,A,c,rfl,t7,K1'.out.il.kpB K1'.out.ty K1'.out.bd k7,K1'.out.ty.kpP k7 (TyQ.one K1'.out.bd) de,b7,K1'.out.kp.trans k7⟩
theorem head_any {w0:World}{g:Nat}{ok:Int->Prop}{S:World->Nat->List Int->Prop}(M:Mo w0 g ok S)(gb:Nat)(hgb:w0.heap.size<=gb):∀(t:Sh) (w:World) (_:Ext w0 w) (k:Nat) (_:BdAt w gb g k) (_:k<=600000) (v:Value) (n:Nat) (_:Tr S ok w v t) (_:Sh.Av t) (_:n<=t.text.length),
 Calls Tryz.prog 86 #[.pointer (some ⟨gb,0,none⟩),v,.int .i64 n] w (RetHd S ok gb g (k+(hdS t n).2.2) (hdS t n).1 (hdS t n).2.1 w)
 | .lf ts,w,x0,k,hb,hk,v,n,h,_,hn=>head_leaf w gb k hb v ts n h hn
 | .nd l r,w,x0,k,hb,hk,v,n,h,ha,hn=>by
  obtain⟨al,ar,_,_⟩:=ha;have hN:=h.n;have e1:(Sh.nd l r).text.length=l.text.length+r.text.length:=by simp[Sh.text]
  rw[e1] at hN hn;unfold hdS;by_cases h1:n<l.text.length
  ·rw[if_pos h1];exact head_left w x0 gb k hb v l r n h h1 _ _ _ (fun v' h'=>head_any M gb hgb l w x0 k hb hk v' n h' al om)
  ·rw[if_neg h1];obtain⟨i1,i2,i3,i4,i5⟩:=hdS_ok (n-l.text.length) ar;have hh:=Sh.Av.hgt_le ar om;have ht:(txtO (hdS r (n-l.text.length)).1).length<=r.text.length:=by
    have:=congrArg List.length i2;rw[List.length_append,List.length_take] at this;omega
   simp only
   rw[<-Nat.add_assoc];exact head_right M w x0 gb k hgb hb v l r n h om om _ _ _ om al i1 om (fun w' x v' h'=>head_any M gb hgb r w' (x0.trans x) k (hb.ext x) hk v' _ h' ar om)
theorem tail_any {w0:World}{g:Nat}{ok:Int->Prop}{S:World->Nat->List Int->Prop}(M:Mo w0 g ok S)(gb:Nat)(hgb:w0.heap.size<=gb):∀(t:Sh) (w:World) (_:Ext w0 w) (k:Nat) (_:BdAt w gb g k) (_:k<=600000) (v:Value) (n:Nat) (_:Tr S ok w v t) (_:Sh.Av t) (_:n<=t.text.length),
 Calls Tryz.prog 87 #[.pointer (some ⟨gb,0,none⟩),v,.int .i64 n] w (RetTl S ok gb g (k+(tlS t n).2.2) (tlS t n).2.1 (tlS t n).1 w)
 | .lf ts,w,x0,k,hb,hk,v,n,h,_,hn=>tail_leaf w gb k hb v ts n h hn
 | .nd l r,w,x0,k,hb,hk,v,n,h,ha,hn=>by
  obtain⟨al,ar,_,_⟩:=ha;have hN:=h.n;have e1:(Sh.nd l r).text.length=l.text.length+r.text.length:=by simp[Sh.text]
  rw[e1] at hN hn;unfold tlS;by_cases h1:l.text.length<=n
  ·rw[if_pos h1];exact tail_right M w x0 gb k hb v l r n h h1 om _ _ _ (fun w' x v' h'=>tail_any M gb hgb r w' (x0.trans x) k (hb.ext x) hk v' _ h' ar om)
  ·rw[if_neg h1];obtain⟨i1,i2,i3,i4,i5⟩:=tlS_ok n al;have hh:=Sh.Av.hgt_le al om;have ht:(txtO (tlS l n).2.1).length<=l.text.length:=by
    have:=congrArg List.length i2;rw[List.length_append,List.length_drop] at this;omega
   simp only
   rw[<-Nat.add_assoc];exact tail_left M w x0 gb k hgb hb v l r n h om _ _ _ om ar i1 om (fun v' h'=>tail_any M gb hgb l w x0 k hb hk v' n h' al om)
def RpAt (S:World->Nat->List Int->Prop)(ok:Int->Prop)(w:World)(gr g:Nat)(o:Option Sh)(k:Nat):Prop:=∃v,Blk w gr 184 #[.pointer (some ⟨g,0,none⟩),v,.int .i64 k]/\TrO S ok w v o
theorem RpAt.ext {w0:World}{g:Nat}{ok:Int->Prop}{S:World->Nat->List Int->Prop}(M:Mo w0 g ok S){w w':World}{gr k:Nat}{o:Option Sh}(h:RpAt S ok w gr g o k)(x:Ext w w'):RpAt S ok w' gr g o k:=by
 obtain⟨v,hb,ht⟩:=h;exact⟨v,hb.ext x,ht.ext M x⟩
def RetRp (S:World->Nat->List Int->Prop)(ok:Int->Prop)(g:Nat)(o:Option Sh)(k:Nat)(w:World)(e:Ending)(w':World):Prop:=∃gr,e=.returned (.tuple #[.pointer (some ⟨gr,0,none⟩),.int .i64 0])/\RpAt S ok w' gr g o k/\Ext w w'
theorem rope_any {w0:World}{g:Nat}{ok:Int->Prop}{S:World->Nat->List Int->Prop}(M:Mo w0 g ok S)(w:World)(gb k:Nat)(hb:BdAt w gb g k)(v:Value)(o:Option Sh)(h:TrO S ok w v o) :
 Calls Tryz.prog 78 #[.pointer (some ⟨gb,0,none⟩),v] w (RetRp S ok g o k w):=by
 obtain⟨b0,b1,b2,_⟩:=Blk.c3 hb;have d0:=kc0 b0;have d1:=kc0 b1;have hv:v=.nilIface\/∃T p,v=.iface T (.pointer p):=by
  cases o with
  | none=>exact .inl h
  | some t=>obtain⟨T,b,s1,K1,K2,K3,e,_⟩:=h.at_.meth;exact .inr ⟨T,_,e⟩
 rcases hv with rfl|⟨T,p,rfl⟩
 all_goals
  go_enter Tryz.func78,Tryz.ntmps78
  go_upto_region 3 with fail
  refine Xr.start [] kr ?_;refine Xtk 0 ?_
  iterate 9(refine Xtn ?_)
  refine Xsp 10 fun w1 hE1 hK1 K hKK=>?_;go_simp;have XN:=fun o=>Ext.alloc w1 o;refine hKK _ _ (KpP.of_ext (XN _)) (hK1.ext (XN _)) ?_;clear hKK;refine ptm ?_;have BN:=fun v=>Blk.new w1 184 #[.pointer (some ⟨g,0,none⟩),v,.int .i64 k];refine Xtk 11 ?_;refine Xtn ?_;refine Xdn fun w2 hE2 hK2=>?_
  go_wp2_with fail
  go_ret2
  exact⟨w1.heap.size,rfl,⟨_,(BN _).ext hE2,h.ext M hK2.nil⟩,hK2.nil⟩
theorem IL.ne {w:World}{A:Option Addr}{c:Nat}{xs:List Int}(h:IL w A c xs)(h0:xs≠[]){gb:Nat}(hg:w.heap.size<=gb):NeA gb A:=fun b hb e=>by
 subst e;obtain⟨b',o,rfl,hc⟩:=h.at_ h0;cases hb
 have h1:=hc 0 (List.length_pos_iff.2 h0);have h2:w.heap[b']? = none:=Array.getElem?_eq_none hg;simp[World.cell?,h2] at h1
theorem onew_any {w0:World}{g:Nat}{ok:Int->Prop}{S:World->Nat->List Int->Prop}(M:Mo w0 g ok S)(w:World)(x0:Ext w0 w)(A:Option Addr)(c:Nat)(ts:List Int)(hi:IL w A c ts)(okt:∀x∈ts,ok x)(htl:ts.length<=65536) :
 Calls Tryz.prog 16 #[.pointer (some ⟨g,0,none⟩),.slice A ts.length c] w (RetRp S ok g (treeS ts).1 (treeS ts).2 w):=by
 have XN:=Ext.alloc w (.cells #[.pointer (some ⟨g,0,none⟩),.int .i64 0,.int .i64 0] 162);have BN:BdAt (w.alloc (.cells #[.pointer (some ⟨g,0,none⟩),.int .i64 0,.int .i64 0] 162)) w.heap.size g 0:=Blk.new w 162 #[.pointer (some ⟨g,0,none⟩),.int .i64 0,.int .i64 0];obtain⟨w1,hw1⟩:∃w1,w1=w.alloc (.cells #[.pointer (some ⟨g,0,none⟩),.int .i64 0,.int .i64 0] 162):=⟨_,rfl⟩;obtain⟨gb,hgb⟩:∃gb,gb=w.heap.size:=⟨_,rfl⟩
 rw[<-hw1] at XN BN
 rw[<-hgb] at BN;have hgb0:w0.heap.size<=gb:=by rw[hgb];exact x0.size
 have HT:=lh (tree_any M gb hgb0 w1 (x0.trans XN) 0 BN om A c ts (hi.ext XN) (fun h=>hi.ne h om) okt htl);rw[Nat.zero_add] at HT;have HXN:=lh (And.intro XN (Nat.le_of_eq hgb.symm));have hcap:=hi.len;have hI:¬(ts.length:Int)>65536:=om;have hJ:¬(65536:Int)<ts.length:=om;have HW:=lh hw1;have HG:=lh hgb;generalize treeS ts=q at *;clear hi okt hw1 hgb XN BN;go_enter Tryz.func16,Tryz.ntmps16
 go_upto_region 6 with fail
 rw[<-HW.out,<-HG.out]
 go_wp2_with (first|(have hq:=HRR;go_at_call 78;refine HRR.out.mono ?_;rintro e w3 ⟨gr,rfl,hr3,x3⟩)|(go_at_call 79;refine HT.out.mono ?_;rintro e w2 ⟨v2,rfl,t2,b2,k2⟩;have HRR:=lh (rope_any M w2 gb _ b2 v2 _ t2)))
 go_ret2
 exact⟨gr,rfl,hr3,(Ext.kp HXN.out.1 k2 (fun i hi=>by rw[hi];exact HXN.out.2)).trans x3⟩
theorem olen_any {S:World->Nat->List Int->Prop}{ok:Int->Prop}(w:World)(gr g k:Nat)(o:Option Sh)(h:RpAt S ok w gr g o k):Calls Tryz.prog 56 #[.pointer (some ⟨gr,0,none⟩)] w (RetE (.int .i64 (txtO o).length) w):=by
 obtain⟨v,hb,ht⟩:=h;obtain⟨b0,b1,b2,_⟩:=hb.c3
 cases o with
 | none=>
  subst ht;go_enter Tryz.func56,Tryz.ntmps56
  go_wp2
  go_ret
  exact⟨rfl,rfl⟩
 | some t=>
  obtain⟨T,b,s1,K1,K2,K3,rfl,hm,_⟩:=ht.at_.meth;have n1:=hm.size.nil_;have n2:=hm.size.mth;have n3:=hm.size.ent;have HS:=lh (hm.size.call w (Ext.rfl' _));go_enter Tryz.func56,Tryz.ntmps56
  go_wp2_with (refine HS.out.mono ?_;rintro e w1 ⟨rfl,rfl⟩)
  go_ret
  exact⟨rfl,rfl⟩
theorem osum_any {w0:World}{g:Nat}{ok:Int->Prop}{S:World->Nat->List Int->Prop}(M:Mo w0 g ok S)(w:World)(x0:Ext w0 w)(gr k:Nat)(o:Option Sh)(h:RpAt S ok w gr g o k) :
 Calls Tryz.prog 25 #[.pointer (some ⟨gr,0,none⟩)] w (fun e w'=>∃gs,e=.returned (.pointer (some ⟨gs,0,none⟩))/\S w' gs (txtO o)/\Ext w w'):=by
 obtain⟨v,hb,ht⟩:=h;obtain⟨b0,b1,b2,_⟩:=hb.c3
 cases o with
 | none=>
  subst ht;have HE:=lh (M.emp w x0);go_enter Tryz.func25,Tryz.ntmps25
  go_wp2_with (go_at_call 42;refine HE.out.mono ?_;rintro e w1 ⟨gs,rfl,hs,x1⟩)
  go_ret
  exact⟨gs,rfl,hs,x1⟩
 | some t=>
  obtain⟨T,b,s1,K1,K2,K3,rfl,hm,hs⟩:=ht.at_.meth;have n1:=hm.sum.nil_;have n2:=hm.sum.mth;have n3:=hm.sum.ent;have HS:=lh (hm.sum.call w (Ext.rfl' _));go_enter Tryz.func25,Tryz.ntmps25
  go_wp2_with (refine HS.out.mono ?_;rintro e w1 ⟨rfl,rfl⟩)
  go_ret
  exact⟨s1,rfl,hs,Ext.rfl' _⟩
theorem madeCells_1 (v:Value)(n:Nat):madeCells #[v] (n*1)=((List.replicate n v)).toArray:=by
 unfold madeCells;refine Array.ext si (fun i h1 h2=>?_);simp[Nat.mod_one]
theorem mkI (n:Nat)(h:n<=1000000)(W:World):(Instr.makeSlice 22 (.int .i64 (n:Int)) (.int .i64 (n:Int))).run Tryz.prog W=.ok (.slice (some ⟨W.heap.size,0,none⟩) n n) (W.alloc (.cells (List.replicate n (.int .i64 0)).toArray 3)):=by
 obtain⟨i0,hi0,hz0,hz1,hz2⟩:=info_parts infoInt;have:=run_make (P:=Tryz.prog) W 22 3 i0 (.int .i64 0) Tryz.underlying22 hi0 hz0 .i64 .i64 n n om (Int.le_refl _) (by rw[hz2];omega) om;rw[this,hz1];simp only[Int.toNat_natCast,Value.cells];rw[madeCells_1]
theorem zero_il (w:World)(n:Nat)(h:n<=1000000):IL (w.alloc (.cells (List.replicate n (.int .i64 0)).toArray 3)) (some ⟨w.heap.size,0,none⟩) n (List.replicate n 0):=by
 refine⟨by simp,by unfold maxLen;omega,fun x hx=>by rw[(List.mem_replicate.1 hx).2];unfold I64;omega,fun _=>⟨_,0,rfl,fun i hi=>?_⟩⟩;have hb:=Blk.new w 3 (List.replicate n (Value.int .i64 0)).toArray;have hi':i<n:=by simpa using hi
 rw[Nat.zero_add,hb.cell i];simp[hi']
theorem head_nil {g:Nat}{ok:Int->Prop}{S:World->Nat->List Int->Prop}(w:World)(gb k:Nat)(hb:BdAt w gb g k)(x:Value) :
 Calls Tryz.prog 86 #[.pointer (some ⟨gb,0,none⟩),.nilIface,x] w (RetHd S ok gb g k none [] w):=by
 have ta:=asNil;have ta1:=fun w=>(ta w).1;have ta2:=fun w=>(ta w).2;clear ta;go_enter Tryz.func86,Tryz.ntmps86
 go_wp2
 go_ret2
 exact⟨.nilIface,none,0,rfl,rfl,IL.nil _,(fun b hb=>by cases hb),hb,KpP.refl _ _⟩
theorem tail_nil {g:Nat}{ok:Int->Prop}{S:World->Nat->List Int->Prop}(w:World)(gb k:Nat)(hb:BdAt w gb g k)(x:Value) :
 Calls Tryz.prog 87 #[.pointer (some ⟨gb,0,none⟩),.nilIface,x] w (RetTl S ok gb g k none [] w):=by
 have ta:=asNil;have ta1:=fun w=>(ta w).1;have ta2:=fun w=>(ta w).2;clear ta;go_enter Tryz.func87,Tryz.ntmps87
 go_wp2
 go_ret2
 exact⟨.nilIface,none,0,rfl,rfl,IL.nil _,(fun b hb=>by cases hb),hb,KpP.refl _ _⟩
theorem headO_any {w0:World}{g:Nat}{ok:Int->Prop}{S:World->Nat->List Int->Prop}(M:Mo w0 g ok S)(gb:Nat)(hgb:w0.heap.size<=gb)(o:Option Sh)(w:World)(x0:Ext w0 w)(k:Nat)(hb:BdAt w gb g k)(hk:k<=600000)(v:Value)(n:Nat)(h:TrO S ok w v o)(ha:AvO o)(hn:n<=(txtO o).length) :
 Calls Tryz.prog 86 #[.pointer (some ⟨gb,0,none⟩),v,.int .i64 n] w (RetHd S ok gb g (k+(hdO o n).2.2) (hdO o n).1 (hdO o n).2.1 w):=by
 cases o with
 | none=>subst h;exact head_nil w gb k hb _
 | some t=>exact head_any M gb hgb t w x0 k hb hk v n h ha hn
theorem tailO_any {w0:World}{g:Nat}{ok:Int->Prop}{S:World->Nat->List Int->Prop}(M:Mo w0 g ok S)(gb:Nat)(hgb:w0.heap.size<=gb)(o:Option Sh)(w:World)(x0:Ext w0 w)(k:Nat)(hb:BdAt w gb g k)(hk:k<=600000)(v:Value)(n:Nat)(h:TrO S ok w v o)(ha:AvO o)(hn:n<=(txtO o).length) :
 Calls Tryz.prog 87 #[.pointer (some ⟨gb,0,none⟩),v,.int .i64 n] w (RetTl S ok gb g (k+(tlO o n).2.2) (tlO o n).2.1 (tlO o n).1 w):=by
 cases o with
 | none=>subst h;exact tail_nil w gb k hb _
 | some t=>exact tail_any M gb hgb t w x0 k hb hk v n h ha hn
def RetEd (S:World->Nat->List Int->Prop)(ok:Int->Prop)(g:Nat)(o:Option Sh)(a d:Int)(l:List Int)(w:World)(e:Ending)(w':World):Prop:=
 (editErr (txtO o).length a d l≠0/\e=.returned (.tuple #[.pointer none,.int .i64 (editErr (txtO o).length a d l)])/\Ext w w')\/
 (editErr (txtO o).length a d l=0/\RetRp S ok g (edS o a.toNat d.toNat l).1 (edS o a.toNat d.toNat l).2 w e w')
theorem oedit_any {w0:World}{g:Nat}{ok:Int->Prop}{S:World->Nat->List Int->Prop}(M:Mo w0 g ok S)(w:World)(x0:Ext w0 w)(gr kold:Nat)(o:Option Sh)(h:RpAt S ok w gr g o kold)(ao:AvO o)(hlen:(txtO o).length<=65536)(a d:Int)(A:Option Addr)(c:Nat)(l:List Int)(hi:IL w A c l)(okl:∀x∈l,ok x)(hd:I64 d)(hll:l.length<=1000000) :
 Calls Tryz.prog 20 #[.pointer (some ⟨gr,0,none⟩),.agg #[.int .i64 a,.int .i64 d,.slice A l.length c]] w (RetEd S ok g o a d l w):=by
 have XE:=lh (Ext.alloc w (.cells #[.int .i64 a,.int .i64 d,.slice A l.length c] 55));have BE:=Blk.new w 55 #[.int .i64 a,.int .i64 d,.slice A l.length c];obtain⟨err,herr⟩:∃err,err=editErr (txtO o).length a d l:=⟨_,rfl⟩;have HER:=lh herr;have HSP:=fun(w':World) (x:Ext w w') (T:Option Addr) (hT:IL w' T (txtO o).length (List.replicate (txtO o).length 0))=>lh (show ∃xs,Calls Tryz.prog 85 #[.slice T (txtO o).length (txtO o).length,.agg #[.int .i64 a,.int .i64 d,.slice A l.length c]] w' (RetSp xs err w') by
  have e0:(List.replicate (txtO o).length (0:Int)).length=(txtO o).length:=List.length_replicate;by_cases he:err=0
  ·refine⟨spliceL (List.replicate (txtO o).length 0) a d l,?_⟩;have h:=splice_ok T (txtO o).length (List.replicate (txtO o).length 0) a d A c l w' hT (hi.ext x) hd om om (by rw[e0,<-herr,he]);rw[e0] at h;rw[he];exact h
  ·refine⟨[],?_⟩;have h:=splice_no T (txtO o).length (List.replicate (txtO o).length 0) a d A c l w' hT (hi.ext x) hd om om (by rw[e0,<-herr];exact he);rw[e0,<-herr] at h;exact h)
 have hcap:=hi.len;clear herr;go_enter Tryz.func20,Tryz.ntmps20
 go_upto_region 1 with fail
 obtain⟨ge,hge⟩:∃ge,ge=w.heap.size:=⟨_,rfl⟩
 rw[<-hge] at BE ⊢;generalize w.alloc (.cells #[.int .i64 a,.int .i64 d,.slice A l.length c] 55)=w1 at *;obtain⟨c0,c1,c2,_⟩:=BE.c3;have d0:=kc0 c0;have d1:=kc0 c1;have d2:=kc0 c2;clear hge;refine Xr.start [] kr ?_;refine Xtk 0 ?_;refine Xr.take 3 (some 18) (v:=.agg #[.int .i64 a,.int .i64 d,.slice A l.length c]) rfl rfl dK (by rfl) (fun w' hk=>by have q0:=d0 w' hk;have q1:=d1 w' hk;have q2:=d2 w' hk;go_simp) ?_;refine ptm ?_;refine Xcl 1 fun w2 hE2 hK2 K hKK=>?_;go_simp;refine(olen_any w2 gr g kold o (RpAt.ext M h (XE.out.trans hE2))).mono ?_;rintro e w3 ⟨rfl,rfl⟩;refine hKK _ _ (Ext.rfl' _) ?_;clear hKK;refine ptm ?_;refine Xsp 2 fun w4 hE4 hK4 K hKK=>?_;have hmk:=mkI (txtO o).length om w4;go_simp;have XM:=Ext.alloc w4 (.cells (List.replicate (txtO o).length (.int .i64 0)).toArray 3);refine hKK _ _ (KpP.of_ext XM) (hK4.ext XM) ?_;clear hKK hmk;have ZI:=zero_il w4 (txtO o).length om;simp only[List.toArray_replicate] at ZI;refine ptm ?_;refine Xcl 4 fun w6 hE6 hK6 K hKK=>?_;go_simp;obtain⟨xs,HX⟩:=(HSP w6 (XE.out.trans hK6.nil) _ (ZI.ext hE6)).out;refine HX.mono ?_;rintro e w7 ⟨A7,c7,rfl,hi7,x7,_⟩;refine hKK _ _ x7 ?_;clear hKK HX;refine ptm ?_;refine Xtk 5 ?_
 iterate 4(refine Xtn ?_)
 refine Xdn fun w8 hE8 hK8=>?_;have X8:=lh hK8.nil;clear hE2 hK2 hE4 hK4 hE6 hK6 hE8 hK8 x7 hi7 ZI XM HSP d0 d1 d2;by_cases he:err=0
 ·subst he;obtain⟨e1,e2,e3,_,e5⟩:=editErr_ok HER.out.symm;obtain⟨n1,rfl⟩:∃n1:Nat,a=n1:=⟨a.toNat,om⟩;obtain⟨m1,rfl⟩:∃m1:Nat,d=m1:=⟨d.toNat,om⟩;have XW8:=lh (XE.out.trans X8.out);obtain⟨v,hbR,ht⟩:=RpAt.ext M h XW8.out;obtain⟨r0,r1,r2,_⟩:=hbR.c3;replace c0:=X8.out.cell c0;replace c1:=X8.out.cell c1;replace c2:=X8.out.cell c2;have BE8:=BE.ext X8.out;have HI8:=lh (hi.ext XW8.out);have XX8:=lh (x0.trans XW8.out);have n1e:n1<=(txtO o).length:=om;have nme:n1+m1<=(txtO o).length:=om;have hK0:=hdO_ok n1 ao;have hK1:=tlO_ok (n1+m1) ao;have hho:=AvO.hgt_le ao om;have H0:=lh hK0;have H1:=lh hK1;have HE5:=lh e5;have hcap2:l.length<=1000000:=hll;have HOT:Hid (∀x∈txtO o,ok x):=lh (by cases o with|none=>(intro x hx;cases hx)|some t=>exact ht.ok_);clear e1 e2 e3 e5 hK0 hK1 BE h hi X8 XE
  go_upto_region 5 with fail
  have XN:=Ext.alloc w8 (.cells #[.pointer (some ⟨g,0,none⟩),.int .i64 0,.int .i64 0] 162);have BN:BdAt (w8.alloc (.cells #[.pointer (some ⟨g,0,none⟩),.int .i64 0,.int .i64 0] 162)) w8.heap.size g 0:=Blk.new w8 162 #[.pointer (some ⟨g,0,none⟩),.int .i64 0,.int .i64 0];obtain⟨gb,hgb⟩:∃gb,gb=w8.heap.size:=⟨_,rfl⟩
  rw[<-hgb] at BN ⊢;have hgb0:w0.heap.size<=gb:=by have:=XX8.out.size;omega
  have HGB:=lh (show w8.heap.size<=gb by omega);have hgbw:Hid (w.heap.size<=gb):=lh (by have:=XW8.out.size;omega);clear hgb;generalize w8.alloc (.cells #[.pointer (some ⟨g,0,none⟩),.int .i64 0,.int .i64 0] 162)=w9 at *;have HX9:=lh (XX8.out.trans XN);have HW9:=lh (XW8.out.trans XN);have hbR9:=hbR.ext XN;have BE9:=BE8.ext XN;have HT9:=lh (ht.ext M XN);have HI9:=lh (HI8.out.ext XN);have q1:=fun(w':World) (h:Kp [gb] w9 w')=>h.cell (XN.cell r1) (by simpa using Blk.neT hbR9 BN de);have q2:=fun(w':World) (h:Kp [gb] w9 w')=>h.cell (XN.cell c0) (by simpa using Blk.neT BE9 BN de);have q3:=fun(w':World) (h:Kp [gb] w9 w')=>h.cell (XN.cell c1) (by simpa using Blk.neT BE9 BN de);have q4:=fun(w':World) (h:Kp [gb] w9 w')=>h.cell (XN.cell c2) (by simpa using Blk.neT BE9 BN de);have Q1:=lh q1;have Q2:=lh q2;have Q3:=lh q3;have Q4:=lh q4;have HI8':Hid (l≠[]->NeA gb A):=lh (fun h0=>HI8.out.ne h0 HGB.out);clear r0 r1 r2 c0 c1 c2 hbR ht BE8 HI8 XX8 XN XW8 hbR9 BE9 q3 q4;refine Xr.start [gb] kr ?_;refine Xtk 0 ?_
  iterate 6(refine Xtn ?_)
  refine Xsp 7 fun w10 hE10 hK10 K hKK=>?_;go_simp;refine(headO_any M gb hgb0 o w10 (KpP.extOf hK10.kpPs HX9.out hgb0) 0 (BN.ext hE10) om v n1 (TrO.kp M BN hK10.kpPs HT9.out) ao n1e).mono ?_;rintro e w11 ⟨v1,A1,c1',rfl,k11⟩;refine hKK _ _ (WI_kp k11.kp si) (hK10.kpP k11.kp si) ?_;clear hKK;refine ptm ?_;refine Xtk 8 ?_
  iterate 4(refine Xtn ?_)
  refine Xdn fun w12 hE12 hK12=>?_;have KK12:=lh hK12.kpPs;have HB12:=lh (k11.bd.ext hE12);have T12:=lh (TrO.ext M hE12 k11.tr);have I12:=lh (k11.il.ext hE12);have Y12:=lh (k11.ty.ext hE12);clear hE10 hK10 hE12 k11 q1 q2;have hK12':=hK12;have q1:=fun(w':World) (h:Kp [gb] w12 w')=>Q1.out w' (hK12'.trans h);have q2:=fun(w':World) (h:Kp [gb] w12 w')=>Q2.out w' (hK12'.trans h);have q3:=fun(w':World) (h:Kp [gb] w12 w')=>Q3.out w' (hK12'.trans h);clear hK12;have hwa:IntKind.i64.wrap ((n1:Int)+(m1:Int))=((n1+m1:Nat):Int):=wj
  go_upto_region 6 with fail
  refine Xr.start [gb] kr ?_;refine Xtk 0 ?_
  iterate 8(refine Xtn ?_)
  refine Xr.take 9 (some 52) (v:=.int .i64 ((n1+m1:Nat):Int)) rfl rfl dK (by rfl) (fun w' hk=>by go_simp) ?_;refine ptm ?_;refine Xsp 10 fun w13 hE13 hK13 K hKK=>?_;go_simp;refine(tailO_any M gb hgb0 o w13 (KpP.extOf (hK12'.trans hK13).kpPs HX9.out hgb0) _ (HB12.out.ext hE13) (by have:=H0.out.2.2.2.2;have:=H0.out.2.2.2.1;omega) v (n1+m1) (TrO.kp M BN (hK12'.trans hK13).kpPs HT9.out) ao nme).mono ?_;rintro e w14 ⟨v2,A2,c2',rfl,k14⟩;refine hKK _ _ (WI_kp k14.kp si) (hK13.kpP k14.kp si) ?_;clear hKK;refine ptm ?_;refine Xtk 11 ?_
  iterate 4(refine Xtn ?_)
  refine Xdn fun w15 hE15 hK15=>?_;have KK15:=lh (hK12'.trans hK15).kpPs;have KQ:=lh hK15.kpPs;have HB15:=lh (k14.bd.ext hE15);have T1:=lh (TrO.kp M HB12.out hK15.kpPs T12.out);have I1:=lh (I12.out.kpB Y12.out HB12.out hK15.kpPs);have T2:=lh (TrO.ext M hE15 k14.tr);have I2:=lh (k14.il.ext hE15);have qq4:=Q4.out w15 (hK12'.trans hK15);have HX15:=lh (KpP.extOf KK15.out HX9.out hgb0);have HW15:=lh (KpP.extOf KK15.out HW9.out hgbw.out);have I9:=lh (I12.out);have HIL:=lh (show IL w15 A c l from HI9.out.kp KK15.out (fun h0 b hb e=>by
   subst e;exact absurd rfl (HI8'.out h0 b hb)))
  clear hE13 hK13 hE15 hK15 k14 q1 q2 q3 Q1 Q2 Q3 Q4 hK12' KK12 HB12 T12 I12 Y12 hwa;obtain⟨p,hp⟩:∃p,p=hdO o n1:=⟨_,rfl⟩;obtain⟨q,hq⟩:∃q,q=tlO o (n1+m1):=⟨_,rfl⟩
  rw[<-hp] at H0 T1 I1 HB15
  rw[<-hq] at H1 T2 I2 HB15
  rw[<-hp,<-hq];obtain⟨mid,hmid⟩:∃mid,mid=p.2.1++l++q.1:=⟨_,rfl⟩;obtain⟨kq,hkq⟩:∃kq,kq=0+p.2.2+q.2.2:=⟨_,rfl⟩
  rw[<-hkq] at HB15;have hkq6:kq<=600000:=by have:=H0.out.2.2.2.2;have:=H0.out.2.2.2.1;have:=H1.out.2.2.2.2;have:=H1.out.2.2.2.1;omega
  have hml:mid.length=p.2.1.length+l.length+q.1.length:=by rw[hmid];simp only[List.length_append]
  have hm1:(txtO p.1).length+p.2.1.length=n1:=by have h:=congrArg List.length H0.out.2.1;rw[List.length_append,List.length_take] at h;omega
  have hm2:q.1.length+(txtO q.2.1).length=(txtO o).length-(n1+m1):=by have h:=congrArg List.length H1.out.2.1;rw[List.length_append,List.length_drop] at h;omega
  have hm3:(txtO p.1).length+mid.length+(txtO q.2.1).length<=65536:=by have:=HE5.out;omega
  have okm:∀x∈mid,ok x:=fun x hx=>by
   rw[hmid] at hx;rcases List.mem_append.1 hx with hx|hx
   ·rcases List.mem_append.1 hx with hx|hx
    ·exact HOT.out x (List.mem_of_mem_take (by rw[<-H0.out.2.1];exact List.mem_append_right _ hx))
    ·exact okl x hx
   ·exact HOT.out x (List.mem_of_mem_drop (by rw[<-H1.out.2.1];exact List.mem_append_left _ hx))
  have HOM:=lh okm;have XC:=lh (Ext.alloc w15 (.cells #[.slice A1 p.2.1.length c1',.slice A l.length c,.slice A2 q.1.length c2'] 22));have BC:=Blk.new w15 22 #[.slice A1 p.2.1.length c1',.slice A l.length c,.slice A2 q.1.length c2'];have hflat:[p.2.1,l,q.1].flatten=mid:=by rw[hmid];simp
  have HCC:=concat_any (some ⟨w15.heap.size,0,none⟩) 3 [p.2.1,l,q.1] _ (LL.three BC (I1.out.ext XC.out) (HIL.out.ext XC.out) (I2.out.ext XC.out)) (by rw[hflat];omega);rw[hflat] at HCC;have HCC:=lh HCC;have HM3:=lh (And.intro hm3 (And.intro hml hkq));have HMID:=lh hmid;have HPQ:=lh (And.intro hp hq);have hbl:gb<w15.heap.size:=HB15.out.lt;have HGL:=lh hbl;clear hflat BC okm hm1 hm2 hm3 hml hmid hkq hbl hp hq;generalize hPB:p.2.1.length=pb at *;generalize hQA:q.1.length=qa at *;clear hPB hQA
  go_upto_region 8 with(first|(have hq:=HTR;go_at_call 79;refine HTR.out.mono ?_;rintro e w17 ⟨vm,rfl,t17,b17,k17⟩)|(go_at_call 88;refine HCC.out.mono ?_;rintro e w16 ⟨A3,c3,rfl,hi3,x16,fr3⟩;have HX16:=lh (XC.out.trans x16);have HTR:=lh (tree_any M gb hgb0 w16 (HX15.out.trans HX16.out) kq (HB15.out.ext HX16.out) om A3 c3 mid hi3 (fun _ b hb e=>by have h1:=fr3 b hb;have h2:=HGL.out;have h3:=XC.out.size;omega) HOM.out (by have:=HM3.out.1;omega))))
  have HB16:=HB15.out.ext HX16.out;have T1':=lh (TrO.kp M HB16 k17 (TrO.ext M HX16.out T1.out));have T2':=lh (TrO.kp M HB16 k17 (TrO.ext M HX16.out T2.out));have X17:=lh (KpP.extOf k17 (HX15.out.trans HX16.out) hgb0);have W17:=lh (KpP.extOf k17 (HW15.out.trans HX16.out) hgbw.out);have hts:=treeS_ok mid;obtain⟨m,hm⟩:∃m,m=treeS mid:=⟨_,rfl⟩
  rw[<-hm] at t17 b17 hts;have hm3:=HM3.out;have hcA:=catO_ok (l:=p.1) (r:=m.1) H0.out.1 hts.1;have hh1:=AvO.hgt_le H0.out.1 om;have hh2:=AvO.hgt_le hts.1 (by rw[hts.2.1];omega);have HC1:=lh (catO_any M gb hgb0 w17 X17.out (kq+m.2) b17 om v1 vm p.1 m.1 T1'.out t17 H0.out.1 hts.1 (by rw[hts.2.1];omega));obtain⟨x,hx⟩:∃x,x=catO p.1 m.1:=⟨_,rfl⟩
  rw[<-hx] at hcA HC1;have hl4:(txtO x.1).length=(txtO p.1).length+mid.length:=by rw[hcA.2.1,List.length_append,hts.2.1]
  have hh3:=AvO.hgt_le hcA.1 om;have hh4:=AvO.hgt_le H1.out.1 om;have hcB:=catO_ok (l:=x.1) (r:=q.2.1) hcA.1 H1.out.1;have HK2:Hid (kq+m.2+x.2<=800000):=lh om;have HL2:Hid ((txtO x.1).length+(txtO q.2.1).length<=65536):=lh om;obtain⟨y,hy⟩:∃y,y=catO x.1 q.2.1:=⟨_,rfl⟩;have HED:Hid (edS o n1 m1 l=(y.1,kq+m.2+x.2+y.2)):=lh (by
   unfold edS
   simp only
   rw[<-HPQ.out.1,<-HPQ.out.2,<-HMID.out,<-hm,<-hx,<-hy,hm3.2.2,Nat.zero_add])
  have HA:=lh (And.intro hcA.1 hy);have HB17:=lh b17;clear hts hm3 hcA hh1 hh2 hh3 hh4 hl4 hcB hm hx hy HB16 t17 k17 b17 T1 T2 HX16 HX15 HW15 HTR I1 I2 HIL HI9 HT9 BN
  go_wp2_with (first|(have hq:=HRO;go_at_call 78;refine HRO.out.mono ?_;rintro e w20 ⟨gr',rfl,r20,x20⟩)|(have hq:=HC2;go_at_call 89;refine HC2.out.mono ?_;rintro e w19 ⟨vy,rfl,t19,b19,k19⟩;have W19:=lh (KpP.extOf k19 W18.out hgbw.out);have HRO:=lh (rope_any M w19 gb _ b19 vy _ t19))|(go_at_call 89;refine HC1.out.mono ?_;rintro e w18 ⟨vx,rfl,t18,b18,k18⟩;have W18:=lh (KpP.extOf k18 W17.out hgbw.out);have HC2:=lh (catO_any M gb hgb0 w18 (KpP.extOf k18 X17.out hgb0) (kq+m.2+x.2) b18 HK2.out vx v2 x.1 q.2.1 t18 (TrO.kp M HB17.out k18 T2'.out) HA.out.1 H1.out.1 HL2.out)))
  go_ret2
  refine .inr ⟨by rw[<-HER.out],gr',rfl,?_,W19.out.trans x20⟩;rw[Int.toNat_natCast,Int.toNat_natCast,HED.out]
  rw[<-HA.out.2] at r20;exact r20
 ·have hb:(err != 0)=true:=by simpa using he
  go_wp2_with fail
  go_ret2
  exact .inl ⟨by rw[<-HER.out];exact he,by rw[<-HER.out];rfl,XE.out.trans X8.out⟩
end
section
open Go.RowKit
structure MoX (w0:World)(g:Nat)(ok:Int->Prop)(S:World->Nat->List Int->Prop):Prop where
 mo:Mo w0 g ok S
 ok:∀x,0<=x->x<=200->ok x
 eq:∀(w:World),Ext w0 w->∀(a b:Nat) (ts:List Int),S w a ts->S w b ts->Calls Tryz.prog 24 #[.pointer (some ⟨a,0,none⟩),.pointer (some ⟨b,0,none⟩)] w (RetV (.bool true) w)
theorem RetEd.ok4 {S:World->Nat->List Int->Prop}{ok:Int->Prop}{g:Nat}{o:Option Sh}{a d:Int}{l:List Int}{w:World}{e:Ending}{w':World}(h:RetEd S ok g o a d l w e w')(he:editErr (txtO o).length a d l=0):RetRp S ok g (edS o a.toNat d.toNat l).1 (edS o a.toNat d.toNat l).2 w e w':=by
 rcases h with h|h
 ·exact absurd he h.1
 ·exact h.2
end
section
open Go.RowKit Go.Shelf
attribute [local go_sem ↓] Go.wp_at_zero Go.wp_at_succ
attribute [local go_sem] Oper.semAt_some
theorem Ext.ofB {wB W W':World}(x:Ext wB W)(h:Below wB.heap.size W W'):Ext wB W':=Below.trans x h
theorem YdOk.of {wB:World}{l N n:Nat}{J Jx:List Int->World->Prop}(hY:∀pre x W1,J pre W1->pre.length<N->YieldAt Fence.wide n Tryz.prog l #[Value.int .i64 x] W1 fun e W'=>
 (e=.returned (.bool true)/\J (pre++[x]) W'/\Below wB.heap.size W1 W')\/(e=.returned (.bool false)/\Jx (pre++[x]) W')):YdOk wB l N J Jx:=fun pre x W x0 hj hl m=>
 YieldAt.anyD rfl m (YieldAt.mono (hY pre x W hj hl) fun e W' h=>h.elim (fun⟨he,hj',hb⟩=>.inl ⟨he,hj',x0.ofB hb⟩) .inr)
theorem syms1_any {w0 wB:World}{g:Nat}{S:World->Nat->List Int->Prop}{ok:Int->Prop}{l N:Nat}{J Jx:List Int->World->Prop}(M:Mo w0 g ok S)(hY:YdOk wB l N J Jx)(gr k:Nat)(o:Option Sh)(h:RpAt S ok wB gr g o k)(b1 b2 b3:Nat)(f t:Int)
 (c1:wB.cell? ⟨b1,0,none⟩=some (.pointer (some ⟨gr,0,none⟩))) (c2:wB.cell? ⟨b2,0,none⟩=some (.int .i64 f)) (c3:wB.cell? ⟨b3,0,none⟩=some (.int .i64 t)) (hf:0<=f/\f<=1000000) (ht:0<=t/\t<=1000000) (W:World) (x0:Ext wB W) (hJ:∀W',Ext W W'->J [] W') (hN:(segI (txtO o) f t).length<=N) :
 Calls Tryz.prog 153 #[.func (.yield l) #[] #[],.pointer (some ⟨b1,0,none⟩),.pointer (some ⟨b2,0,none⟩),.pointer (some ⟨b3,0,none⟩)] W
  (fun e W'=>(∃v,e=.returned v)/\(J (segI (txtO o) f t) W'\/∃pre,pre <+: segI (txtO o) f t/\Jx pre W')):=by
 obtain⟨v,hb,hv⟩:=h;have d1:=x0.cell c1;have d2:=x0.cell c2;have d3:=x0.cell c3;have d4:W.cell? ⟨gr,1,none⟩=some v:=x0.cell (hb.cell 1);clear c1 c2 c3 hb
 cases o with
 | none=>
  have hv':v=.nilIface:=hv;subst hv';have e0:segI (txtO none) f t=[]:=by simp[txtO,segI]
  rw[e0];clear hv e0 hN;go_enter Tryz.func153,Tryz.ntmps153
  go_wp2
  exact bodyPost_end (v:=.tuple #[]) (by simp[results,Tryz.results153,go_sem]) rfl ⟨⟨_,rfl⟩,.inl (hJ _ (Ext.rfl' _))⟩
 | some T=>
  have hv':Tr S ok wB v T:=hv;have hn:=hv'.n;have HW:=lh (fun(W':World) (x:Ext W W')=>walk_any M hY T v hv' f t om om [] W' (x0.trans x) (hJ W' x) (by simpa[txtO] using hN));have et:txtO (some T)=T.text:=rfl;rw[et];obtain⟨T1,q1,s1,K1,K2,K3,rfl,_⟩:=hv'.at_.meth;clear hv hv' hN et hn;generalize segI T.text f t=xs at *;go_enter Tryz.func153,Tryz.ntmps153
  go_upto_region 1 with fail
  have j1:=kx0 d1;have j2:=kx0 d2;have j3:=kx0 d3;have j4:=kx0 d4;refine Xe.start 7 kr ?_;refine Xet 0 ?_;refine Xet 1 ?_;refine Xet 2 ?_;refine Xet 3 ?_;refine Xet 4 ?_;refine Xet 5 ?_;refine Xet 6 ?_;refine Xe.last rfl dK (by rfl) (fun w' hE hE0 K hKK=>?_);go_simp;refine(HW.out w' hE0).mono ?_;rintro e W1 (⟨rfl,hJ1,x1⟩|⟨rfl,q,hq,hx1⟩)
  ·refine hKK _ _ ?_;clear hKK HW hJ hY
   go_wp2
   exact bodyPost_end (v:=.tuple #[]) (by simp[results,Tryz.results153,go_sem]) rfl ⟨⟨_,rfl⟩,.inl hJ1⟩
  ·refine hKK _ _ ?_;clear hKK HW hJ hY
   go_wp2
   exact bodyPost_end (v:=.tuple #[]) (by simp[results,Tryz.results153,go_sem]) rfl ⟨⟨_,rfl⟩,.inr ⟨q,hq,hx1⟩⟩
theorem grown_ext {w w':World}(x:Ext w w'):w.grownBy w' none:=⟨x.os,x.tape,x.output,x.size,fun k hk _=>x.block k hk⟩
theorem syms_stops {w0 wB:World}{g:Nat}{S:World->Nat->List Int->Prop}{ok:Int->Prop}(M:Mo w0 g ok S)(n:Nat)(gr k:Nat)(o:Option Sh)(h:RpAt S ok wB gr g o k)(b1 b2 b3:Nat)(f t:Int)
 (c1:wB.cell? ⟨b1,0,none⟩=some (.pointer (some ⟨gr,0,none⟩))) (c2:wB.cell? ⟨b2,0,none⟩=some (.int .i64 f)) (c3:wB.cell? ⟨b3,0,none⟩=some (.int .i64 t)) (hf:0<=f/\f<=1000000) (ht:0<=t/\t<=1000000) :
 SeqStopsK Fence.wide n Tryz.prog 153 #[.pointer (some ⟨b1,0,none⟩),.pointer (some ⟨b2,0,none⟩),.pointer (some ⟨b3,0,none⟩)] (fun x:Int=>#[Value.int .i64 x]) (Below wB.heap.size) (fun ys=>ys=segI (txtO o) f t) (fun pre=>pre <+: segI (txtO o) f t) (segI (txtO o) f t).length wB:=fun l J Jx W hW hJ hJx hY h0=>
 callsIn_wide.2 ((syms1_any M (YdOk.of hY) gr k o h b1 b2 b3 f t c1 c2 c3 hf ht W hW (fun W' x=>hJ [] W W' none h0 (grown_ext x) (fun r e=>by cases e)) (Nat.le_refl _)).mono (by
  rintro e W' ⟨hv,hJ'|hJ'⟩
  ·exact⟨hv,.inl ⟨_,rfl,hJ'⟩⟩
  ·exact⟨hv,.inr hJ'⟩))
theorem appendSeq_any (w:World)(gf:Nat)(lb:Array Value)(eg:∀args w,(callFunc gf args).run Tryz.prog w=.ok (.enter gf args) w)(xs:List Int)(Sp:List Int->Prop)(hN:xs.length<=1000000)(hr:∀x∈xs,I64 x)
 (hseq:SeqStopsK Fence.wide 4 Tryz.prog gf lb (fun x:Int=>#[Value.int .i64 x]) (Below w.heap.size) (fun ys=>ys=xs) Sp xs.length w) :
 Calls Tryz.prog 152 #[.slice none 0 0,.func (.func gf) #[] lb] w (RetOI xs w):=by
 obtain⟨i0,hi,hz0,hz1,hz2⟩:=info_parts infoInt;refine(callsIn_wide (n:=5)).1 ?_;refine callsIn_of_wp_marks Tryz.func152 rfl trivial ?_ rfl;simp only[Tryz.ntmps152,List.size_toArray,List.length_cons,List.length_nil,Nat.reduceAdd,Nat.reduceSub,Array.replicate_succ,Array.replicate_zero,List.push_toArray,List.append_toArray,List.nil_append,List.cons_append]
 gi_wp2
 have bO:=Boxed.new w 22 (.slice none 0 0);have hB0:Below w.heap.size w (w.alloc (.cells #[.slice none 0 0] 22)):=(Below.refl _ w).alloc (Nat.le_refl _) _;refine wpIn_rangeFunc_ownG rfl de (gf:=gf) (lb:=lb) rfl trivial eg hseq belowK_t (belowK_b si) hB0 (fun _=>rfl)
  (fun pre W=>(∃v,Boxed W w.heap.size 22 v/\W.ownsRow w.heap.size 3 1 v pre.length (pre.map (Value.int .i64))/\True)/\Below w.heap.size w W)
  (fun _ _ _=>False)
  (OwnFrom.and (Own.from (holdsRow_own w.heap.size w.heap.size 22 3 1 (fun pre:List Int=>pre.length) (fun pre=>pre.map (Value.int .i64)) (fun pre v=>True)) _) (ownFrom_below (Nat.le_refl _) si))
  (fun _ _ _ _ _ hs _ _=>hs)
  ⟨⟨_,bO,World.ownsRow_nil _ _ _ _,trivial⟩,hB0⟩
  (fun x=>{ tmps:=#[.slice none 0 0,.func (.func gf) #[] lb,.pointer (some ⟨w.heap.size,0,none⟩),undef,.slice none 0 0,.int .i64 x,.func (.func gf) #[] lb,.int .i64 x,undef,undef,undef,undef,undef],defers:=[] }) ?assign ?body ?done ?stop
 case assign=>
  intro l x W K hK
  gi_wp2
  exact hK
 case body=>
  rintro l pre x W ⟨⟨v,hv,hrow,_⟩,hB⟩ hlt;have hc:=hv.cell
  gi_wp2_with (gi_at_builtin;refine wpListIn_append_own _ rfl _ _ 22 rfl w.heap.size 3 i0 (.int .i64 0) 1 8 Tryz.underlying22 hi hz0 hz1 hz2 rfl de _ _ _ rfl (hrow.alloc _) ⟨W.heap.size,0,none⟩ 1 1 [.int .i64 x] rfl rfl (cell_one_new _ _ _) (by simp[Value.oneCell']) um om (by have:=hB.size;simp;omega) ?_;intro v' w1 hown' hgrow _;obtain⟨g',cap',rfl⟩:=ownsRow_succ hown';obtain⟨hv1,hv2,hr2,hk2,hb2⟩:=hv.appended de hrow hB.size (Nat.le_refl _) hown' hgrow;have hc1:=hv1.cell;have hf1:=hv1.frozen)
  exact⟨hk2.from _,hb2,⟨_,hv2,by simpa using hr2,trivial⟩,hB.trans hb2⟩
 case done=>
  rintro D ys W hD rfl ⟨⟨v,hv,hrow,_⟩,hB⟩ hK;have hc:=hv.cell
  gi_wp2
  refine⟨by simp,.inl ⟨_,_,rfl,run_takeDeferred hK,?_⟩⟩;have hrow2:=ownsRow_putObj hrow (.deferred none) hK rfl;have hx2:=hB.trans (belowK_b (w:=w) (Nat.le_refl _) W D _ (.deferred none) (by simp at hD;omega) hK rfl rfl);obtain⟨A,c,rfl⟩:∃A c,v=.slice A ys.length c:=by
   rcases hrow.2 with⟨e,e2⟩|⟨g',cap,cur,e,_⟩
   ·exact⟨none,0,by rw[e,e2]⟩
   ·exact⟨_,_,e⟩
  exact⟨_,results_tmp rfl _ _ _,A,c,rfl,hrow2,hr,hx2⟩
 case stop=>
  rintro D c pre W _ _ h _;exact h.elim
theorem RtAt.rng {S:World->Nat->List Int->Prop}{w:World}:∀{t:Sh} {v:Value},RtAt S w v t->∀x∈t.text,I64 x
 | .lf _,_,⟨_,_,_,_,_,_,hi,_,_⟩=>fun x hx=>hi.rng x hx
 | .nd _ _,_,⟨_,_,_,_,_,_,h1,h2,_⟩=>fun x hx=>by
  rcases List.mem_append.1 hx with hx|hx
  ·exact RtAt.rng h1 x hx
  ·exact RtAt.rng h2 x hx
theorem RpAt.rng {S:World->Nat->List Int->Prop}{ok:Int->Prop}{w:World}{gr g k:Nat}{o:Option Sh}(h:RpAt S ok w gr g o k):∀x∈txtO o,I64 x:=by
 obtain⟨v,_,hv⟩:=h
 cases o with
 | none=>intro x hx;cases hx
 | some t=>exact RtAt.rng (Tr.at_ hv)
theorem segI_mem {ts:List Int}{f t x:Int}(h:x∈segI ts f t):x∈ts:=List.mem_of_mem_take (List.mem_of_mem_drop h)
theorem segI_all (ts:List Int):segI ts 0 ts.length=ts:=by simp[segI]
theorem syms_any (w:World)(gr:Nat)(f t:Int):Calls Tryz.prog 93 #[.pointer (some ⟨gr,0,none⟩),.int .i64 f,.int .i64 t] w
 (fun e w'=>∃b1 b2 b3,e=.returned (.func (.func 153) #[] #[.pointer (some ⟨b1,0,none⟩),.pointer (some ⟨b2,0,none⟩),.pointer (some ⟨b3,0,none⟩)])/\w'.cell? ⟨b1,0,none⟩=some (.pointer (some ⟨gr,0,none⟩))/\w'.cell? ⟨b2,0,none⟩=some (.int .i64 f)/\w'.cell? ⟨b3,0,none⟩=some (.int .i64 t)/\Ext w w'):=by
 obtain⟨B1,B2,B3,X⟩:=alloc3 w 46 #[.pointer (some ⟨gr,0,none⟩)] 3 #[.int .i64 f] 3 #[.int .i64 t];have HB1:=lh B1;have HB2:=lh B2;have HB3:=lh B3;have HX:=lh X;clear B1 B2 B3 X;go_enter Tryz.func93,Tryz.ntmps93
 go_wp2
 go_ret
 exact⟨_,_,_,rfl,HB1.out.c1.1,HB2.out.c1.1,HB3.out.c1.1,HX.out⟩
theorem collect_any (w:World)(gf:Nat)(lb:Array Value)(eg:∀args w,(callFunc gf args).run Tryz.prog w=.ok (.enter gf args) w)(xs:List Int)(Sp:List Int->Prop)(hN:xs.length<=1000000)(hr:∀x∈xs,I64 x)
 (hseq:SeqStopsK Fence.wide 4 Tryz.prog gf lb (fun x:Int=>#[Value.int .i64 x]) (Below w.heap.size) (fun ys=>ys=xs) Sp xs.length w) :
 Calls Tryz.prog 92 #[.func (.func gf) #[] lb] w (RetOI xs w):=by
 have H:=lh (appendSeq_any w gf lb eg xs Sp hN hr hseq);clear hseq hr;go_enter Tryz.func92,Tryz.ntmps92
 go_wp2_with (go_at_call 152;refine H.out.mono ?_;rintro e w1 ⟨A,c,rfl,ho,hi,x1⟩)
 go_ret
 exact⟨A,c,rfl,ho,hi,x1⟩
theorem OwnS.lowB {w:World}{base base' e size n c:Nat}{A:Option Addr}{xs:List Value}(h:OwnS w base' e size A n c xs)(hb:base<=base'):OwnS w base e size A n c xs:=by
 refine⟨h.1,?_⟩;rcases h.2 with h2|⟨g,cap,cur,hv,hg,r⟩
 ·exact Or.inl h2
 ·exact Or.inr ⟨g,cap,cur,hv,Nat.le_trans hb hg,r⟩
theorem otext_any {w0:World}{g:Nat}{S:World->Nat->List Int->Prop}{ok:Int->Prop}(M:Mo w0 g ok S)(w:World)(gr k:Nat)(o:Option Sh)(h:RpAt S ok w gr g o k)(hl:(txtO o).length<=65536):Calls Tryz.prog 23 #[.pointer (some ⟨gr,0,none⟩)] w (RetOI (txtO o) w):=by
 have HL:=lh (olen_any w gr g k o h);have HS:=lh (syms_any w gr 0 (txtO o).length);have HC:=fun(w1:World) (x:Ext w w1) (b1 b2 b3:Nat) (c1:w1.cell? ⟨b1,0,none⟩=some (.pointer (some ⟨gr,0,none⟩))) (c2:w1.cell? ⟨b2,0,none⟩=some (.int .i64 0)) (c3:w1.cell? ⟨b3,0,none⟩=some (.int .i64 (txtO o).length))=>
  lh (collect_any w1 153 #[.pointer (some ⟨b1,0,none⟩),.pointer (some ⟨b2,0,none⟩),.pointer (some ⟨b3,0,none⟩)] Tryz.call153 (segI (txtO o) 0 (txtO o).length) _ (by rw[segI_all];omega) (fun x hx=>h.rng x (segI_mem hx)) (syms_stops M 4 gr k o (h.ext M x) b1 b2 b3 0 (txtO o).length c1 c2 c3 om om))
 rw[segI_all] at HC;clear h;generalize txtO o=ts at *;go_enter Tryz.func23,Tryz.ntmps23
 go_wp2_with (first|(go_at_call 56;refine HL.out.mono ?_;clear HL;rintro e wa ⟨rfl,rfl⟩)|(go_at_call 93;refine HS.out.mono ?_;clear HS;rintro e w1 ⟨b1,b2,b3,rfl,c1,c2,c3,x1⟩)|(go_at_call 92;refine(HC w1 x1 b1 b2 b3 c1 c2 c3).out.mono ?_;rintro e w2 ⟨A,c,rfl,ho,hi,x2⟩))
 go_ret
 have ho':OwnI w2 w.heap.size 3 A c ts:=OwnS.lowB ho x1.size;exact⟨A,c,rfl,ho',hi,x1.trans x2⟩
end
end Go.Proofs.YtmpcoifnpflapaaGreat
