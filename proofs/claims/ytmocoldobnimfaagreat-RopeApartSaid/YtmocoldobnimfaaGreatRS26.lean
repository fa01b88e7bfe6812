/- Texts of this proof: R5 R6 R8 R7 R9 RA RJ. -/
import Derived.Test.YtmocoldobnimfaaGreatRS23
import Derived.RangeFuncBox
import Derived.RangeFuncWrites
import Derived.RangeFuncFrom
import Derived.RangeFuncBound
import Derived.RangeFuncLeaves
import Derived.Shelf.Abstract
import Derived.OwnWalkIn
import Derived.TacticsInMore
import Derived.LoopNIn
import Derived.LoopIn
import Derived.Maps.AppendAt
set_option linter.all false
set_option maxRecDepth 100000
set_option maxHeartbeats 16000000
namespace Go.Proofs.YtmocoldobnimfaaGreat
section
open Go.RowKit
attribute [local go_sem ↓] Go.wp_at_zero Go.wp_at_succ
theorem c11 {P:Prop}(h:P:=by
 go_upto_region 11 with(first|(go_at_fn K2;refine(HM1.out.height.call _ S0).mono ?_;rintro e wa ⟨rfl,rfl⟩)|(go_at_fn K5;refine(HM2.out.height.call _ S0).mono ?_;rintro e wa ⟨rfl,rfl⟩))
 have HP:=lh (pair_any M w x0 gb k hgb hb om _ _ _ _ hl hr hn (by simp only[Sh.hgt] at hh ⊢;omega));clear hl hr hn hh HM1 HM2 n1 n2 n3 n4 n5 n6 hs1 hs2
 go_wp2_with (go_at_call 140;refine HP.out.mono ?_;rintro e w1 ⟨v1,rfl,k1⟩)
 go_ret
 exact⟨v1,rfl,k1⟩):P:=h
theorem cat_pair {w0:World}{g:Nat}{ok:Int->Prop}{S:World->Nat->List Int->Prop}(M:Mo w0 g ok S)(w:World)(x0:Ext w0 w)(gb k:Nat)(hgb:w0.heap.size<=gb)(hb:BdAt w gb g k)(hk:k<=900000)(vl vr:Value)(l r:Sh)(hl:Tr S ok w vl l)(hr:Tr S ok w vr r)
 (hn:l.text.length+r.text.length<=65536) (h1:¬r.hgt+1<l.hgt) (h2:¬l.hgt+1<r.hgt) (hh:max l.hgt r.hgt<=900) :
 Calls Tryz.prog 99 #[.pointer (some ⟨gb,0,none⟩),vl,vr] w (RetTr S ok gb g (k+1) (.nd l r) w):=by
 obtain⟨T1,b1,s1,K1,K2,K3,rfl,hm1,hs1⟩:=hl.at_.meth;obtain⟨T2,b2,s2,K4,K5,K6,rfl,hm2,hs2⟩:=hr.at_.meth;have n1:=hm1.height.nil_;have n2:=hm1.height.mth;have n3:=hm1.height.ent;have n4:=hm2.height.nil_;have n5:=hm2.height.mth;have n6:=hm2.height.ent;have HM1:=lh hm1;have HM2:=lh hm2;have hlh:=hl.h;have hrh:=hr.h;have ta:=asIn;have tb:=asLfIn;have S0:=Ext.rfl' w;have h1I:¬(l.hgt:Int)>(r.hgt:Int)+1:=om;have h2I:¬(r.hgt:Int)>(l.hgt:Int)+1:=om;have h1J:¬(r.hgt:Int)+1<(l.hgt:Int):=om;have h2J:¬(l.hgt:Int)+1<(r.hgt:Int):=om;clear hm1 hm2 h1 h2;rcases hl.as with⟨l1,l2,hl2,rfl⟩|⟨ts',hl2,rfl⟩<;>rcases hr.as with⟨r1,r2,hr2,rfl⟩|⟨ts,hr2,rfl⟩<;>clear hl2 hr2
 all_goals
  go_enter Tryz.func99,Tryz.ntmps99;exact c11
theorem cat7 {w0:World}{g:Nat}{ok:Int->Prop}{S:World->Nat->List Int->Prop}(M:Mo w0 g ok S)(w:World)(x0:Ext w0 w)(gb k:Nat)(hgb:w0.heap.size<=gb)(hb:BdAt w gb g k)(vl vr:Value)(a b r t:Sh)(c:Nat)(hl:Tr S ok w vl (.nd a b))(hr:Tr S ok w vr r)(h1:r.hgt+1<(Sh.nd a b).hgt)(hkc:k+c<=900000)(ht:a.text.length+t.text.length<=65536)(hth:max a.hgt t.hgt<=900)
 (HC:∀w',Ext w0 w'->BdAt w' gb g k->∀v,Tr S ok w' v b->Tr S ok w' vr r->Calls Tryz.prog 99 #[.pointer (some ⟨gb,0,none⟩),v,vr] w' (RetTr S ok gb g (k+c) t w')) :
 Calls Tryz.prog 99 #[.pointer (some ⟨gb,0,none⟩),vl,vr] w (RetTr S ok gb g (k+(c+(Sh.bal a t).2)) (Sh.bal a t).1 w):=by
 obtain⟨b1,va,vb,gs,rfl,hbl,ha,hbb⟩:=hl.nd;obtain⟨_,_,s1,K1,K2,K3,e1,hm1,hs1⟩:=hl.at_.meth;obtain⟨T2,b2,s2,K4,K5,K6,rfl,hm2,hs2⟩:=hr.at_.meth;cases e1
 have n1:=hm1.height.nil_;have n2:=hm1.height.mth;have n3:=hm1.height.ent;have n4:=hm2.height.nil_;have n5:=hm2.height.mth;have n6:=hm2.height.ent;have HM1:=lh hm1;have HM2:=lh hm2;have hlh:=hl.h;have hrh:=hr.h;have ta:=asIn;have tb:=asLfIn;have S0:=Ext.rfl' w;have c0:w.cell? ⟨b1,0,none⟩=some va:=hbl.cell 0;have c1:w.cell? ⟨b1,1,none⟩=some vb:=hbl.cell 1;have h1I:((Sh.nd a b).hgt:Int)>(r.hgt:Int)+1:=om;clear hm1 hm2 h1;unfold inV;go_enter Tryz.func99,Tryz.ntmps99
 go_upto_region 7 with(first|(go_at_fn K2;refine(HM1.out.height.call _ S0).mono ?_;rintro e wa ⟨rfl,rfl⟩)|(go_at_fn K5;refine(HM2.out.height.call _ S0).mono ?_;rintro e wa ⟨rfl,rfl⟩))
 have d0:=fun(w':World) (h:Kp [gb] w w')=>h.cell c0 (by simpa using Blk.neT hbl hb de);have d1:=fun(w':World) (h:Kp [gb] w w')=>h.cell c1 (by simpa using Blk.neT hbl hb de);clear HM1 HM2 n1 n2 n3 n4 n5 n6 hs1 hs2 c0 c1;refine Xr.start [gb] kr ?_;refine Xtk 0 ?_
 iterate 10(refine Xtn ?_)
 clear d0 d1;refine Xsp 11 fun w6 hE6 hK6 K hKK=>?_;go_simp;refine(HC w6 (KpP.extOf hK6.kpPs x0 hgb) (hb.ext hE6) _ (hbb.kp M hb hK6.kpPs) (hr.kp M hb hK6.kpPs)).mono ?_;rintro e w7 ⟨v1,rfl,k7⟩;refine hKK _ _ (WI_kp k7.kp si) (hK6.kpP k7.kp si) ?_;clear hKK;refine ptm ?_;refine Xsp 12 fun w8 hE8 hK8 K hKK=>?_;go_simp;refine(balance_any M w8 (KpP.extOf hK8.kpPs x0 hgb) gb (k+c) hgb (k7.bd.ext hE8) hkc _ _ _ _ (ha.kp M hb hK8.kpPs) (k7.tr.ext M hE8) ht hth).mono ?_;rintro e w9 ⟨v2,rfl,k9⟩;refine hKK _ _ (WI_kp k9.kp si) (hK8.kpP k9.kp si) ?_;clear hKK;refine ptm ?_;refine Xtk 13 ?_;refine Xdn fun wz hEz hKz=>?_
 go_wp2_with fail
 go_ret
 exact⟨v2,rfl,k9.tr.ext M hEz,by rw[<-Nat.add_assoc];exact k9.bd.ext hEz,hKz.kpPs⟩
theorem c10 {P:Prop}(h:P:=by
 go_upto_region 10 with(first|(go_at_fn K2;refine(HM1.out.height.call _ S0).mono ?_;rintro e wa ⟨rfl,rfl⟩)|(go_at_fn K5;refine(HM2.out.height.call _ S0).mono ?_;rintro e wa ⟨rfl,rfl⟩))
 have d0:=fun(w':World) (h:Kp [gb] w w')=>h.cell c0 (by simpa using Blk.neT hbl hb de);have d1:=fun(w':World) (h:Kp [gb] w w')=>h.cell c1 (by simpa using Blk.neT hbl hb de);clear HM1 HM2 n1 n2 n3 n4 n5 n6 hs1 hs2 c0 c1;refine Xr.start [gb] kr ?_;refine Xtk 0 ?_
 iterate 6(refine Xtn ?_)
 refine Xtk 8 ?_
 iterate 3(refine Xtn ?_)
 clear d0 d1;refine Xsp 7 fun w6 hE6 hK6 K hKK=>?_;go_simp;refine(HC w6 (KpP.extOf hK6.kpPs x0 hgb) (hb.ext hE6) _ (hl.kp M hb hK6.kpPs) (ha.kp M hb hK6.kpPs)).mono ?_;rintro e w7 ⟨v1,rfl,k7⟩;refine hKK _ _ (WI_kp k7.kp si) (hK6.kpP k7.kp si) ?_;clear hKK;refine ptm ?_;refine Xsp 12 fun w8 hE8 hK8 K hKK=>?_;go_simp;refine(balance_any M w8 (KpP.extOf hK8.kpPs x0 hgb) gb (k+c) hgb (k7.bd.ext hE8) hkc _ _ _ _ (k7.tr.ext M hE8) (hbb.kp M hb hK8.kpPs) ht hth).mono ?_;rintro e w9 ⟨v2,rfl,k9⟩;refine hKK _ _ (WI_kp k9.kp si) (hK8.kpP k9.kp si) ?_;clear hKK;refine ptm ?_;refine Xtk 13 ?_;refine Xdn fun wz hEz hKz=>?_
 go_wp2_with fail
 go_ret
 exact⟨v2,rfl,k9.tr.ext M hEz,by rw[<-Nat.add_assoc];exact k9.bd.ext hEz,hKz.kpPs⟩):P:=h
theorem cat10 {w0:World}{g:Nat}{ok:Int->Prop}{S:World->Nat->List Int->Prop}(M:Mo w0 g ok S)(w:World)(x0:Ext w0 w)(gb k:Nat)(hgb:w0.heap.size<=gb)(hb:BdAt w gb g k)(vl vr:Value)(l a b t:Sh)(c:Nat)(hl:Tr S ok w vl l)(hr:Tr S ok w vr (.nd a b))(h0:¬(Sh.nd a b).hgt+1<l.hgt)(h1:l.hgt+1<(Sh.nd a b).hgt)(hkc:k+c<=900000)(ht:t.text.length+b.text.length<=65536)(hth:max t.hgt b.hgt<=900)
 (HC:∀w',Ext w0 w'->BdAt w' gb g k->∀v,Tr S ok w' vl l->Tr S ok w' v a->Calls Tryz.prog 99 #[.pointer (some ⟨gb,0,none⟩),vl,v] w' (RetTr S ok gb g (k+c) t w')) :
 Calls Tryz.prog 99 #[.pointer (some ⟨gb,0,none⟩),vl,vr] w (RetTr S ok gb g (k+(c+(Sh.bal t b).2)) (Sh.bal t b).1 w):=by
 obtain⟨b2,va,vb,gs,rfl,hbl,ha,hbb⟩:=hr.nd;obtain⟨T1,b1,s1,K1,K2,K3,rfl,hm1,hs1⟩:=hl.at_.meth;obtain⟨_,_,s2,K4,K5,K6,e2,hm2,hs2⟩:=hr.at_.meth;cases e2
 have n1:=hm1.height.nil_;have n2:=hm1.height.mth;have n3:=hm1.height.ent;have n4:=hm2.height.nil_;have n5:=hm2.height.mth;have n6:=hm2.height.ent;have HM1:=lh hm1;have HM2:=lh hm2;have hlh:=hl.h;have hrh:=hr.h;have ta:=asIn;have tb:=asLfIn;have S0:=Ext.rfl' w;have c0:w.cell? ⟨b2,0,none⟩=some va:=hbl.cell 0;have c1:w.cell? ⟨b2,1,none⟩=some vb:=hbl.cell 1;have h1I:((Sh.nd a b).hgt:Int)>(l.hgt:Int)+1:=om;have h0I:¬(l.hgt:Int)>((Sh.nd a b).hgt:Int)+1:=om;have h0J:¬((Sh.nd a b).hgt:Int)+1<(l.hgt:Int):=om;clear hm1 hm2 h1 h0;unfold inV;rcases hl.as with⟨l1,l2,hl2,rfl⟩|⟨ts',hl2,rfl⟩<;>clear hl2
 all_goals
  go_enter Tryz.func99,Tryz.ntmps99;exact c10
theorem cat_any {w0:World}{g:Nat}{ok:Int->Prop}{S:World->Nat->List Int->Prop}(M:Mo w0 g ok S)(gb:Nat)(hgb:w0.heap.size<=gb):∀(f:Nat) (w:World) (_:Ext w0 w) (k:Nat) (_:BdAt w gb g k) (_:k<=800000) (vl vr:Value) (l r:Sh) (_:Tr S ok w vl l) (_:Tr S ok w vr r) (_:Sh.Av l) (_:Sh.Av r)
 (_:l.text.length+r.text.length<=65536) (_:max l.hgt r.hgt<=800) (_:l.hgt+r.hgt<=f),Calls Tryz.prog 99 #[.pointer (some ⟨gb,0,none⟩),vl,vr] w (RetTr S ok gb g (k+(Sh.catF f l r).2) (Sh.catF f l r).1 w)
 | 0,w,_,k,_,_,vl,vr,l,r,_,_,_,_,_,_,hf=>by have:=Sh.hgt_pos l;omega
 | f+1,w,x0,k,hb,hk,vl,vr,l,r,hl,hr,al,ar,hn,hh,hf=>by
  have pl:=Sh.hgt_pos l;have pr:=Sh.hgt_pos r;unfold Sh.catF;by_cases h1:r.hgt+1<l.hgt
  ·rw[if_pos h1]
   cases l with
   | lf ts=>simp only[Sh.hgt] at h1;omega
   | nd a b=>
    obtain⟨aa,ab,b1,b2⟩:=al;have e1:a.hgt+1<=(Sh.nd a b).hgt/\b.hgt+1<=(Sh.nd a b).hgt:=by simp only[Sh.hgt];omega
    have e2:(Sh.nd a b).text.length=a.text.length+b.text.length:=by simp[Sh.text]
    obtain⟨i1,i2,i3,i4,i5⟩:=Sh.cat_ok f ab ar om;have e3:(Sh.catF f b r).1.text.length=b.text.length+r.text.length:=by rw[i2];simp
    refine cat7 M w x0 gb k hgb hb vl vr a b r (Sh.catF f b r).1 (Sh.catF f b r).2 hl hr h1 om om om (fun w' x hb' v h h'=>?_);exact cat_any M gb hgb f w' x k hb' hk v vr b r h h' ab ar om om om
  ·rw[if_neg h1];by_cases h2:l.hgt+1<r.hgt
   ·rw[if_pos h2]
    cases r with
    | lf ts=>simp only[Sh.hgt] at h2;omega
    | nd a b=>
     obtain⟨aa,ab,b1,b2⟩:=ar;have e1:a.hgt+1<=(Sh.nd a b).hgt/\b.hgt+1<=(Sh.nd a b).hgt:=by simp only[Sh.hgt];omega
     have e2:(Sh.nd a b).text.length=a.text.length+b.text.length:=by simp[Sh.text]
     obtain⟨i1,i2,i3,i4,i5⟩:=Sh.cat_ok f al aa om;have e3:(Sh.catF f l a).1.text.length=l.text.length+a.text.length:=by rw[i2];simp
     refine cat10 M w x0 gb k hgb hb vl vr l a b (Sh.catF f l a).1 (Sh.catF f l a).2 hl hr h1 h2 om om om (fun w' x hb' v h h'=>?_);exact cat_any M gb hgb f w' x k hb' hk vl v l a h h' al aa om om om
   ·rw[if_neg h2];exact cat_pair M w x0 gb k hgb hb om vl vr l r hl hr hn h1 h2 om
section
variable {w0:World} {g:Nat} {ok:Int->Prop} {S:World->Nat->List Int->Prop}
def TrO (S:World->Nat->List Int->Prop)(ok:Int->Prop)(w:World):Value->Option Sh->Prop
 | v,none=>v=.nilIface
 | v,some t=>Tr S ok w v t
theorem TrO.kp (M:Mo w0 g ok S){w w':World}{gb k:Nat}(hb:BdAt w gb g k)(kk:KpP (·=gb) w w'):∀{v:Value} {t:Option Sh},TrO S ok w v t->TrO S ok w' v t
 | _,none,h=>h
 | _,some _,h=>Tr.kp M h hb kk
theorem TrO.ext (M:Mo w0 g ok S){w w':World}(x:Ext w w'):∀{v:Value} {t:Option Sh},TrO S ok w v t->TrO S ok w' v t
 | _,none,h=>h
 | _,some _,h=>Tr.ext M h x
def RetTrO (S:World->Nat->List Int->Prop)(ok:Int->Prop)(gb g k:Nat)(t:Option Sh)(w:World)(e:Ending)(w':World):Prop:=∃v,e=.returned v/\TrO S ok w' v t/\BdAt w' gb g k/\KpP (·=gb) w w'
theorem AvO.hgt_le {t:Option Sh}(h:AvO t)(hl:(txtO t).length<=65536):hgtO t<=33:=by
 cases t with
 | none=>simp[hgtO]
 | some t=>exact Sh.Av.hgt_le h hl
end
theorem cat_nilL {w0:World}{g:Nat}{ok:Int->Prop}{S:World->Nat->List Int->Prop}(w:World)(gb k:Nat)(hb:BdAt w gb g k)(v:Value)(t:Option Sh)(h:TrO S ok w v t) :
 Calls Tryz.prog 99 #[.pointer (some ⟨gb,0,none⟩),.nilIface,v] w (RetTrO S ok gb g k t w):=by
 go_enter Tryz.func99,Tryz.ntmps99
 go_wp2
 go_ret
 exact⟨v,rfl,h,hb,KpP.refl _ _⟩
theorem cat_nilR {w0:World}{g:Nat}{ok:Int->Prop}{S:World->Nat->List Int->Prop}(w:World)(gb k:Nat)(hb:BdAt w gb g k)(v:Value)(t:Sh)(h:Tr S ok w v t) :
 Calls Tryz.prog 99 #[.pointer (some ⟨gb,0,none⟩),v,.nilIface] w (RetTrO S ok gb g k (some t) w):=by
 obtain⟨T,b,s1,K1,K2,K3,rfl,_⟩:=h.at_.meth;go_enter Tryz.func99,Tryz.ntmps99
 go_wp2
 go_ret
 exact⟨_,rfl,h,hb,KpP.refl _ _⟩
theorem catO_any {w0:World}{g:Nat}{ok:Int->Prop}{S:World->Nat->List Int->Prop}(M:Mo w0 g ok S)(gb:Nat)(hgb:w0.heap.size<=gb)(w:World)(x0:Ext w0 w)(k:Nat)(hb:BdAt w gb g k)(hk:k<=800000)(vl vr:Value)(l r:Option Sh)(hl:TrO S ok w vl l)(hr:TrO S ok w vr r)(al:AvO l)(ar:AvO r)
 (hn:(txtO l).length+(txtO r).length<=65536):Calls Tryz.prog 99 #[.pointer (some ⟨gb,0,none⟩),vl,vr] w (RetTrO S ok gb g (k+(catO l r).2) (catO l r).1 w):=by
 cases l with
 | none=>subst hl;exact cat_nilL (w0:=w0) w gb k hb vr r hr
 | some l=>cases r with
  | none=>subst hr;exact cat_nilR (w0:=w0) w gb k hb vl l hl
  | some r=>
   have e1:=Sh.Av.hgt_le al (by simp only[txtO] at hn;omega);have e2:=Sh.Av.hgt_le ar (by simp only[txtO] at hn;omega);refine(cat_any M gb hgb (l.hgt+r.hgt) w x0 k hb hk vl vr l r hl hr al ar hn om (Nat.le_refl _)).mono ?_;rintro e w' ⟨v,rfl,h⟩;exact⟨v,rfl,h.tr,h.bd,h.kp⟩
structure HdB (S:World->Nat->List Int->Prop)(ok:Int->Prop)(gb g k:Nat)(o:Option Sh)(bf:List Int)(w w':World)(v:Value)(A:Option Addr)(c:Nat):Prop where
 tr:TrO S ok w' v o
 il:IL w' A c bf
 ty:TyA 3 w' A
 bd:BdAt w' gb g k
 kp:KpP (·=gb) w w'
def RetHd (S:World->Nat->List Int->Prop)(ok:Int->Prop)(gb g k:Nat)(o:Option Sh)(bf:List Int)(w:World)(e:Ending)(w':World):Prop:=∃v A c,e=.returned (.tuple #[v,.slice A bf.length c])/\HdB S ok gb g k o bf w w' v A c
def RetTl (S:World->Nat->List Int->Prop)(ok:Int->Prop)(gb g k:Nat)(o:Option Sh)(bf:List Int)(w:World)(e:Ending)(w':World):Prop:=∃v A c,e=.returned (.tuple #[.slice A bf.length c,v])/\HdB S ok gb g k o bf w w' v A c
theorem IL.takeR {w:World}{A:Option Addr}{c k:Nat}{xs:List Int}(h:IL w A c xs)(hk:k<=xs.length):IL w A c (xs.take k):=by
 have h1:=h.le;refine⟨by rw[List.length_take];omega,h.cap,fun x hx=>h.rng x (List.mem_of_mem_take hx),fun hn=>?_⟩;obtain⟨b,o,rfl,hc⟩:=h.at_ (by rintro rfl;simp at hn);refine⟨b,o,rfl,fun i hi=>?_⟩;rw[List.getElem_take];exact hc i (by rw[List.length_take] at hi;omega)
theorem IL.kpB {w w':World}{A:Option Addr}{c gb g k:Nat}{xs:List Int}(h:IL w A c xs)(ht:TyA 3 w A)(hb:BdAt w gb g k)(kk:KpP (·=gb) w w'):IL w' A c xs:=h.kp kk (fun _ b' hb'=>by
 obtain⟨cur,e'⟩:=ht b' hb';exact(TyQ.one hb).no e' de)
theorem TyA.drop {T:Nat}{w:World}{A:Option Addr}(h:TyA T w A)(c k:Nat):TyA T w (dropI A c k):=fun b hb=>by
 unfold dropI at hb
 split at hb
 ·exact h b hb
 ·cases A with
  | none=>cases hb
  | some a=>exact h b (by
   simp only[Option.map_some,Addr.add] at hb ⊢
   split at hb<;>exact hb)
theorem head_leaf {g:Nat}{ok:Int->Prop}{S:World->Nat->List Int->Prop}(w:World)(gb k:Nat)(hb:BdAt w gb g k)(v:Value)(ts:List Int)(n:Nat)(h:Tr S ok w v (.lf ts))(hn:n<=ts.length) :
 Calls Tryz.prog 96 #[.pointer (some ⟨gb,0,none⟩),v,.int .i64 n] w (RetHd S ok gb g k none (ts.take n) w):=by
 obtain⟨b,A,c,gs,rfl,hbl,hi,ht,_⟩:=h.at_;have c0:w.cell? ⟨b,0,none⟩=some (.slice A ts.length c):=hbl.cell 0;have hl:=hi.len;have hnI:(n:Int)<=ts.length:=om;have hnc:(n:Int)<=c:=om;have ta:=asLf;have d0:=kc0 c0;unfold lfV;go_enter Tryz.func96,Tryz.ntmps96
 go_upto_region 4 with fail
 refine Xr.start [] kr ?_;refine Xtk 0 ?_
 iterate 4(refine Xtn ?_)
 refine Xr.take 5 (some 21) (v:=.slice A n c) rfl rfl dK (by rfl) (fun w' hk=>by go_simp) ?_;refine ptm ?_;refine Xtk 6 ?_;refine Xtn ?_;refine Xdn fun wz hEz hKz=>?_
 go_wp2_with fail
 go_ret2
 have X:=hKz.nil;have e:(ts.take n).length=n:=by rw[List.length_take];omega
 exact⟨.nilIface,A,c,by rw[e];rfl,rfl,(hi.ext X).takeR hn,ht.ext X,hb.ext X,KpP.of_ext X⟩
theorem tail_leaf {g:Nat}{ok:Int->Prop}{S:World->Nat->List Int->Prop}(w:World)(gb k:Nat)(hb:BdAt w gb g k)(v:Value)(ts:List Int)(n:Nat)(h:Tr S ok w v (.lf ts))(hn:n<=ts.length) :
 Calls Tryz.prog 97 #[.pointer (some ⟨gb,0,none⟩),v,.int .i64 n] w (RetTl S ok gb g k none (ts.drop n) w):=by
 obtain⟨b,A,c,gs,rfl,hbl,hi,ht,_⟩:=h.at_;have c0:w.cell? ⟨b,0,none⟩=some (.slice A ts.length c):=hbl.cell 0;have hl:=hi.len;have hnI:(n:Int)<=ts.length:=om;have hnc:(n:Int)<=c:=om;have ta:=asLf;have H:=fun(w':World) (x:Ext w w')=>(⟨rfl,(hi.ext x).dropN hn,(ht.ext x).drop c n,hb.ext x,KpP.of_ext x⟩:HdB S ok gb g k none (ts.drop n) w w' .nilIface (dropI A c n) (c-n));have e:(ts.drop n).length=ts.length-n:=List.length_drop;have HL:Hid (ts.length<=c):=lh hl.1;obtain⟨m,hm⟩:∃m,m=ts.length:=⟨_,rfl⟩
 rw[<-hm] at c0 hnI e HL hl;clear hi ht hbl h hn hb hm;unfold lfV;by_cases hcc:c=n
 ·subst hcc;have e2:dropI A c c=A:=by simp[dropI]
  rw[e2] at H;obtain rfl:m=c:=om;go_enter Tryz.func97,Tryz.ntmps97
  go_wp2_with fail
  go_ret2
  have H2:=H _ (Ext.rfl' _);rw[Nat.sub_self] at H2 e;exact⟨.nilIface,A,0,by rw[e];rfl,H2⟩
 ·have hci:¬(c:Int)=n:=om;have e2:dropI A c n=A.map (fun x=>x.add n):=by unfold dropI;rw[if_neg hcc]
  go_enter Tryz.func97,Tryz.ntmps97
  go_wp2_with fail
  go_ret2
  exact⟨.nilIface,_,c-n,by rw[e,e2];rfl,H _ (Ext.rfl' _)⟩
def RetILT (xs:List Int)(w:World)(e:Ending)(w':World):Prop:=∃A c,e=.returned (.slice A xs.length c)/\IL w' A c xs/\Ext w w'/\Fr w A/\TyA 3 w' A
theorem clone_ty (A:Option Addr)(c:Nat)(l:List Int)(w:World)(hl:IL w A c l)(hb:l.length<=1099511627776) :
 Calls Tryz.prog 104 #[.slice A l.length c] w (RetILT l w):=
 (clone_own A c l w hl hb).mono (fun _ _ ⟨A',c',h1,ho,hr,x⟩=>⟨A',c',h1,IL.of_own ho hr,x,OwnS.row ho,TyA.own ho⟩)
def NeA (gb:Nat)(A:Option Addr):Prop:=∀b,A.map (·.block)=some b->b≠gb
theorem NeA.drop {gb:Nat}{A:Option Addr}(h:NeA gb A)(c k:Nat):NeA gb (dropI A c k):=fun b hb=>by
 unfold dropI at hb
 split at hb
 ·exact h b hb
 ·cases A with
  | none=>cases hb
  | some a=>exact h b (by
   simp only[Option.map_some,Addr.add] at hb ⊢
   split at hb<;>exact hb)
theorem IL.kpN {w w':World}{A:Option Addr}{c gb:Nat}{xs:List Int}(h:IL w A c xs)(hn:NeA gb A)(kk:KpP (·=gb) w w'):IL w' A c xs:=h.kp kk (fun _ b hb=>hn b hb)
theorem build_leaf {w0:World}{g:Nat}{ok:Int->Prop}{S:World->Nat->List Int->Prop}(M:Mo w0 g ok S)(w:World)(x0:Ext w0 w)(gb k:Nat)(hb:BdAt w gb g k)(hk:k<=900000)(A:Option Addr)(c:Nat)(ts:List Int)(hi:IL w A c ts)(hne:NeA gb A)
 (okt:∀x∈ts,ok x) (htl:ts.length<=65536) :
 Calls Tryz.prog 137 #[.pointer (some ⟨gb,0,none⟩),.slice A ts.length c,.int .i64 1] w (RetTr S ok gb g (k+1) (.lf ts) w):=by
 have c0:w.cell? ⟨gb,0,none⟩=some (.pointer (some ⟨g,0,none⟩)):=hb.cell 0;have HOF:=lh (M.of w x0 A c ts hi okt htl);have HI:=lh hi;have hcap:=hi.len;clear hi;go_enter Tryz.func137,Tryz.ntmps137
 go_upto_region 3 with(go_at_call 26;refine HOF.out.mono ?_;rintro e w1 ⟨gs,rfl,hs,x1⟩)
 have hb1:=lh (hb.ext x1)
 go_upto_region 4 with(go_at_call 172;refine(note_any w1 gb g k hb1.out).mono ?_;rintro e w2 ⟨rfl,hb2,hk2⟩)
 have HS2:=lh (M.kp hs hk2 (TyQ.one hb1.out));have HK2:=lh (KpP.extThen x1 hk2);clear hs hk2 hb1 x1 HOF c0;obtain⟨b0,b1',b2',z0,z1,z2,_⟩:=Blk.c3 hb2;have HB3:Hid (BdAt (w2.setCell ⟨gb,1,none⟩ (.int .i64 ((k:Int)+1))) gb g (k+1)):=lh (by have h:=Blk.set hb2 1 (.int .i64 ((k:Int)+1));exact h);have HK3':=(KpP.refl (·=gb) w2).set (x:=⟨gb,1,none⟩) (.inl rfl) (.int .i64 ((k:Int)+1));have HS3:=lh (M.kp HS2.out HK3' (TyQ.one hb2));have HK3:=lh (HK2.out.trans HK3');have HI3:=lh (HI.out.kpN hne HK3.out);clear HK3' HS2 HK2 hb2 HI hb
 go_upto_region 5 with fail
 generalize w2.setCell ⟨gb,1,none⟩ (.int .i64 ((k:Int)+1))=w3 at *;clear b0 b1' b2' z0 z1 z2
 go_wp2_with (go_at_call 104;refine(clone_ty A c ts w3 HI3.out om).mono ?_;rintro e w4 ⟨A',c',rfl,hi4,x4,_,ht4⟩)
 go_ret
 have XN:=Ext.alloc w4 (.cells #[.slice A' ts.length c',.pointer (some ⟨gs,0,none⟩)] 238);exact⟨lfV w4.heap.size,rfl,⟨⟨w4.heap.size,A',c',gs,rfl,Blk.new _ _ _,hi4.ext XN,ht4.ext XN,M.ext HS3.out (x4.trans XN)⟩,okt,by simp[Sh.hgt],htl⟩,HB3.out.ext (x4.trans XN),HK3.out.thenExt (x4.trans XN)⟩
theorem cut_bd {n L x c:Nat}(h3:L<=n)(h4:n<=32*L)(hx:x=L / 2)(hL2:2<=L)(hc:c=n*x / L):x<=c/\c<=32*x/\c+(L-x)<=n/\n-c<=32*(L-x):=by
 obtain⟨y,hy⟩:∃y,y=L-x:=⟨_,rfl⟩
 rw[<-hy];have hL:x+y=L:=om;have d1:c*L<=n*x:=by rw[hc];exact Nat.div_mul_le_self _ _
 have d2:n*x<(c+1)*L:=by rw[hc];exact Nat.lt_mul_of_div_lt (Nat.lt_succ_self _) om
 have b1:x<=c:=by
  rcases Nat.lt_or_ge c x with h|h
  ·exfalso
   have k1:(c+1)*L<=x*L:=Nat.mul_le_mul_right _ om;have k2:L*x<=n*x:=Nat.mul_le_mul_right _ h3;rw[Nat.mul_comm L x] at k2;omega
  ·exact h
 have b2:c<=32*x:=by
  rcases Nat.lt_or_ge (32*x) c with h|h
  ·exfalso
   have k1:(32*x+1)*L<=c*L:=Nat.mul_le_mul_right _ om;have k2:n*x<=32*L*x:=Nat.mul_le_mul_right _ h4;have e:(32*x+1)*L=32*L*x+L:=by rw[Nat.add_mul,Nat.one_mul,Nat.mul_assoc,Nat.mul_comm x L,<-Nat.mul_assoc]
   omega
  ·exact h
 have b3:c+y<=n:=by
  rcases Nat.lt_or_ge n (c+y) with h|h
  ·exfalso
   have k1:n*L=n*x+n*y:=by rw[<-hL,Nat.mul_add]
   have k2:L*y<=n*y:=Nat.mul_le_mul_right _ h3;have k3:(n+1)*L<=(c+y)*L:=Nat.mul_le_mul_right _ om;have k4:(c+y)*L=c*L+L*y:=by rw[Nat.add_mul,Nat.mul_comm y L]
   have k5:(n+1)*L=n*L+L:=by rw[Nat.add_mul,Nat.one_mul]
   omega
  ·exact h
 have b4:n-c<=32*y:=by
  rcases Nat.lt_or_ge (32*y) (n-c) with h|h
  ·exfalso
   have k1:n*L=n*x+n*y:=by rw[<-hL,Nat.mul_add]
   have k2:n*y<=32*L*y:=Nat.mul_le_mul_right _ h4;have k3:(32*y+1+c)*L<=n*L:=Nat.mul_le_mul_right _ om;have k4:(32*y+1+c)*L=32*L*y+(c+1)*L:=by
    rw[Nat.add_assoc,Nat.add_comm 1 c,Nat.add_mul,Nat.mul_assoc,Nat.mul_comm y L,<-Nat.mul_assoc]
   omega
  ·exact h
 exact⟨b1,b2,b3,b4⟩
theorem cut_law {m half L cut:Nat}(hcut:cut=m*half / L)(hmul:m*half<=65536*65536):wrap64 ((wrap64 ((m:Int)*(half:Int))).tdiv (L:Int))=(cut:Int):=by
 have e0:(m:Int)*(half:Int)=((m*half:Nat):Int):=by simp
 rw[e0,hcut];clear hcut e0;generalize m*half=X at *;have e1:wrap64 ((X:Nat):Int)=(X:Int):=by unfold wrap64;omega
 rw[e1];have e2:(X:Int).tdiv (L:Int)=((X / L:Nat):Int):=by rw[Int.tdiv_eq_ediv_of_nonneg om];simp
 rw[e2];have e3:X / L<=X:=Nat.div_le_self _ _;generalize X / L=Y at *;unfold wrap64;omega
theorem build_node {w0:World}{g:Nat}{ok:Int->Prop}{S:World->Nat->List Int->Prop}(M:Mo w0 g ok S)(w:World)(x0:Ext w0 w)(gb k:Nat)(hgb:w0.heap.size<=gb)(hb:BdAt w gb g k)(A:Option Addr)(c:Nat)(ts:List Int)(hi:IL w A c ts)(hne:NeA gb A)(L half cut:Nat)(hL:2<=L)(hL2:L<=65536)
 (hhalf:half=L / 2) (hcut:cut=ts.length*half / L) (hct:cut<=ts.length) (htl:ts.length<=65536) (l r:Sh) (q p:Nat) (hp:p<=900000) (hn:l.text.length+r.text.length<=65536) (hh:(Sh.nd l r).hgt<=1000)
 (H1:∀w',Ext w w'->IL w' A c (ts.take cut)->Calls Tryz.prog 137 #[.pointer (some ⟨gb,0,none⟩),.slice A cut c,.int .i64 half] w' (RetTr S ok gb g q l w'))
 (H2:∀w',Ext w0 w'->BdAt w' gb g q->IL w' (dropI A c cut) (c-cut) (ts.drop cut)->Calls Tryz.prog 137 #[.pointer (some ⟨gb,0,none⟩),.slice (dropI A c cut) (ts.length-cut) (c-cut),.int .i64 (L-half:Nat)] w' (RetTr S ok gb g p r w')) :
 Calls Tryz.prog 137 #[.pointer (some ⟨gb,0,none⟩),.slice A ts.length c,.int .i64 L] w (RetTr S ok gb g (p+1) (.nd l r) w):=by
 have hcap:=hi.len;have hdv:IntKind.i64.wrap ((L:Int) / 2)=(half:Int):=wj;have HI:=lh hi;have hL0:¬(L:Int)=1:=om;obtain⟨m,hm⟩:∃m,m=ts.length:=⟨_,rfl⟩
 rw[<-hm] at hcut hct htl hcap H2 ⊢;have hmul:m*half<=65536*65536:=Nat.mul_le_mul htl om;have hq:=lh (cut_law hcut hmul);have HMT:=lh hm;clear hi hm hcut hmul;have HH:=lh hhalf;clear hhalf;go_enter Tryz.func137,Tryz.ntmps137
 go_upto_region 8 with fail
 rw[hq.out];clear hq;have hcI:(cut:Int)<=m:=om;have hcc:(cut:Int)<=c:=om;have hsub:(L:Int)-(half:Int)=((L-half:Nat):Int):=by have:=HH.out;omega
 obtain⟨d,hd⟩:∃d,d=L-half:=⟨_,rfl⟩;have hwd:IntKind.i64.wrap (d:Int)=(d:Int):=wj
 rw[<-hd] at H2 hsub;clear hd;refine Xr.start [gb] kr ?_;refine Xtk 0 ?_
 iterate 3(refine Xtn ?_)
 refine Xr.take 4 (some 50) (v:=.slice A cut c) rfl rfl dK (by rfl) (fun w' hk=>by go_simp) ?_;refine ptm ?_;refine Xtk 5 ?_;refine Xtk 7 ?_
 iterate 2(refine Xtn ?_)
 refine Xr.take 10 (some 56) (v:=.slice (dropI A c cut) (m-cut) (c-cut)) rfl rfl dK (by rfl) (fun w' hk=>?_) ?_
 ·by_cases hce:c=cut
  ·have e1:dropI A c cut=A:=by unfold dropI;rw[if_pos hce]
   rw[e1];subst hce;obtain rfl:m=c:=om;go_simp
  ·have e1:dropI A c cut=A.map (fun x=>x.add cut):=by unfold dropI;rw[if_neg hce]
   have hce2:¬(c:Int)=(cut:Int):=om;rw[e1];go_simp
 refine ptm ?_;refine Xtk 11 ?_;refine Xtn ?_;refine Xr.take 13 (some 59) (v:=.int .i64 d) rfl rfl dK (by rfl) (fun w' hk=>by go_simp) ?_;refine ptm ?_;refine Xsp 6 fun w1 hE1 hK1 K hKK=>?_;go_simp;refine(H1 w1 hE1 ((HI.out.ext hE1).takeR (by have:=HMT.out;omega))).mono ?_;rintro e w2 ⟨v1,rfl,k2⟩;refine hKK _ _ (WI_kp k2.kp si) (hK1.kpP k2.kp si) ?_;clear hKK;refine ptm ?_;refine Xsp 14 fun w3 hE3 hK3 K hKK=>?_;go_simp;refine(H2 w3 (KpP.extOf hK3.kpPs x0 hgb) (k2.bd.ext hE3) ((HI.out.kpN hne hK3.kpPs).dropN (by have:=HMT.out;omega))).mono ?_;rintro e w4 ⟨v2,rfl,k4⟩;refine hKK _ _ (WI_kp k4.kp si) (hK3.kpP k4.kp si) ?_;clear hKK;refine ptm ?_;refine Xsp 15 fun w5 hE5 hK5 K hKK=>?_;go_simp;refine(pair_any M w5 (KpP.extOf hK5.kpPs x0 hgb) gb p hgb (k4.bd.ext hE5) om _ _ l r (((k2.tr.ext M hE3).kp M (k2.bd.ext hE3) k4.kp).ext M hE5) (k4.tr.ext M hE5) hn hh).mono ?_;rintro e w6 ⟨v3,rfl,k6⟩;refine hKK _ _ (WI_kp k6.kp si) (hK5.kpP k6.kp si) ?_;clear hKK;refine ptm ?_;refine Xtk 16 ?_;refine Xdn fun wz hEz hKz=>?_
 go_wp2_with fail
 go_ret
 exact⟨v3,rfl,k6.tr.ext M hEz,k6.bd.ext hEz,hKz.kpPs⟩
theorem build_any {w0:World}{g:Nat}{ok:Int->Prop}{S:World->Nat->List Int->Prop}(M:Mo w0 g ok S)(gb:Nat)(hgb:w0.heap.size<=gb):∀(f:Nat) (w:World) (_:Ext w0 w) (k:Nat) (_:BdAt w gb g k) (A:Option Addr) (c:Nat) (ts:List Int) (_:IL w A c ts) (_:NeA gb A) (L:Nat) (_:1<=L) (_:L<=f) (_:L<=ts.length) (_:ts.length<=32*L) (_:∀x∈ts,ok x) (_:ts.length<=65536) (_:k+2*L<=900000),
 Calls Tryz.prog 137 #[.pointer (some ⟨gb,0,none⟩),.slice A ts.length c,.int .i64 L] w (RetTr S ok gb g (k+(bldF f ts L).2) (bldF f ts L).1 w)
 | 0,w,_,k,_,A,c,ts,_,_,L,h1,h2,_,_,_,_,_=>om
 | f+1,w,x0,k,hb,A,c,ts,hi,hne,L,h1,h2,h3,h4,okt,htl,hk=>by
  unfold bldF;by_cases h5:L=1
  ·subst h5;rw[if_pos rfl];exact build_leaf M w x0 gb k hb om A c ts hi hne okt htl
  ·rw[if_neg h5]
   simp only
   obtain⟨half,hx⟩:∃x,x=L / 2:=⟨_,rfl⟩;obtain⟨cut,hc⟩:∃c,c=ts.length*(L / 2) / L:=⟨_,rfl⟩
   rw[<-hc,<-hx]
   rw[<-hx] at hc;obtain⟨b1,b2,b3,b4⟩:=cut_bd h3 h4 hx om hc;have l1:(ts.take cut).length=cut:=by rw[List.length_take];omega
   have l2:(ts.drop cut).length=ts.length-cut:=by rw[List.length_drop]
   obtain⟨i1,i2,i3,i4⟩:=bldF_ok f (ts.take cut) half om om om om;obtain⟨j1,j2,j3,j4⟩:=bldF_ok f (ts.drop cut) (L-half) om om om om;have q1:=Sh.Av.hgt_le i1 (by rw[i2];omega);have q2:=Sh.Av.hgt_le j1 (by rw[j2];omega);have e:k+((bldF f (ts.take cut) half).2+(bldF f (ts.drop cut) (L-half)).2+1)=k+(bldF f (ts.take cut) half).2+(bldF f (ts.drop cut) (L-half)).2+1:=om;rw[e];refine build_node M w x0 gb k hgb hb A c ts hi hne L half cut om om hx hc om htl _ _ (k+(bldF f (ts.take cut) half).2) _ om (by rw[i2,j2];omega) (by simp only[Sh.hgt];omega) (fun w' x hi'=>?_) (fun w' x hb' hi'=>?_)
   ·have h:=build_any M gb hgb f w' (x0.trans x) k (hb.ext x) A c (ts.take cut) hi' hne half om om om om (fun y hy=>okt y (List.mem_of_mem_take hy)) om om
    rwa [l1] at h
   ·have h:=build_any M gb hgb f w' x (k+(bldF f (ts.take cut) half).2) hb' (dropI A c cut) (c-cut) (ts.drop cut) hi' (hne.drop c cut) (L-half) om om om om (fun y hy=>okt y (List.mem_of_mem_drop hy)) om om
    rwa [l2] at h
theorem tree_any {w0:World}{g:Nat}{ok:Int->Prop}{S:World->Nat->List Int->Prop}(M:Mo w0 g ok S)(gb:Nat)(hgb:w0.heap.size<=gb)(w:World)(x0:Ext w0 w)(k:Nat)(hb:BdAt w gb g k)(hk:k<=800000)(A:Option Addr)(c:Nat)(ts:List Int)(hi:IL w A c ts)(hne:ts≠[]->NeA gb A)(okt:∀x∈ts,ok x)(htl:ts.length<=65536) :
 Calls Tryz.prog 94 #[.pointer (some ⟨gb,0,none⟩),.slice A ts.length c] w (RetTrO S ok gb g (k+(treeS ts).2) (treeS ts).1 w):=by
 unfold treeS;by_cases h0:ts=[]
 ·subst h0;rw[if_pos rfl];go_enter Tryz.func94,Tryz.ntmps94
  go_wp2
  go_ret
  exact⟨.nilIface,rfl,rfl,hb,KpP.refl _ _⟩
 ·rw[if_neg h0];have h1:1<=ts.length:=by cases ts with
   | nil=>exact absurd rfl h0
   | cons a b=>simp
  obtain⟨L,hL⟩:∃L,L=(ts.length+31) / 32:=⟨_,rfl⟩;have H:=build_any M gb hgb L w x0 k hb A c ts hi (hne h0) L om (Nat.le_refl _) om om okt htl om
  rw[<-hL];have HH:=lh H;have hcap:=hi.len;have h0I:((ts.length:Int) == 0)=false:=by simpa using(by omega:¬(ts.length:Int)=0)
  generalize bldF L ts L=bb at *;have HL:=lh hL;generalize ts.length=m at *;clear H hi hne h0 h1 hL;go_enter Tryz.func94,Tryz.ntmps94
  go_wp2_with (go_at_call 137;rw[show((m:Int)+32-1) / 32=(L:Int) by have:=HL.out;omega];refine HH.out.mono ?_;rintro e w1 ⟨v1,rfl,k1⟩)
  go_ret
  exact⟨v1,rfl,k1.tr,k1.bd,k1.kp⟩
theorem head_left {w0:World}{g:Nat}{ok:Int->Prop}{S:World->Nat->List Int->Prop}(w:World)(x0:Ext w0 w)(gb k:Nat)(hb:BdAt w gb g k)(v:Value)(l r:Sh)(n:Nat)(h:Tr S ok w v (.nd l r))(hn:n<l.text.length)(o:Option Sh)(bf:List Int)(q:Nat)
 (HC:∀v',Tr S ok w v' l->Calls Tryz.prog 96 #[.pointer (some ⟨gb,0,none⟩),v',.int .i64 n] w (RetHd S ok gb g q o bf w)) :
 Calls Tryz.prog 96 #[.pointer (some ⟨gb,0,none⟩),v,.int .i64 n] w (RetHd S ok gb g q o bf w):=by
 obtain⟨b,vl,vr,gs,rfl,hbl,hl,hr⟩:=h.nd;obtain⟨T1,b1,s1,K1,K2,K3,rfl,hm1,hs1⟩:=hl.at_.meth;have c0:w.cell? ⟨b,0,none⟩=some (.iface T1 (.pointer (some ⟨b1,0,none⟩))):=hbl.cell 0;have n1:=hm1.size.nil_;have n2:=hm1.size.mth;have n3:=hm1.size.ent;have HM1:=lh hm1;have ta:=asIn;have tb:=asInLf;have S0:=Ext.rfl' w;have hnI:(n:Int)<(l.text.length:Int):=om;have H:=lh (HC _ hl);have hln:=hl.n;clear HC hm1 hl hr hs1 h hn hbl;unfold inV;go_enter Tryz.func96,Tryz.ntmps96
 go_upto_region 8 with(go_at_fn K1;refine(HM1.out.size.call _ S0).mono ?_;rintro e wa ⟨rfl,rfl⟩)
 go_wp2_with (go_at_call 96;refine H.out.mono ?_;rintro e w1 ⟨v',A,c,rfl,k1⟩)
 go_ret2
 exact⟨v',A,c,rfl,k1⟩
theorem head_right {w0:World}{g:Nat}{ok:Int->Prop}{S:World->Nat->List Int->Prop}(M:Mo w0 g ok S)(w:World)(x0:Ext w0 w)(gb k:Nat)(hgb:w0.heap.size<=gb)(hb:BdAt w gb g k)(v:Value)(l r:Sh)(n:Nat)(h:Tr S ok w v (.nd l r))(hn:l.text.length<=n)(hn2:n<=1000000)(o:Option Sh)(bf:List Int)(q:Nat)(hq:q<=800000)(al:Sh.Av l)(ao:AvO o)(ht:l.text.length+(txtO o).length<=65536)
 (HC:∀w',Ext w w'->∀v',Tr S ok w' v' r->Calls Tryz.prog 96 #[.pointer (some ⟨gb,0,none⟩),v',.int .i64 (n-l.text.length:Nat)] w' (RetHd S ok gb g q o bf w')) :
 Calls Tryz.prog 96 #[.pointer (some ⟨gb,0,none⟩),v,.int .i64 n] w (RetHd S ok gb g (q+(catO (some l) o).2) (catO (some l) o).1 bf w):=by
 obtain⟨b,vl,vr,gs,rfl,hbl,hl,hr⟩:=h.nd;obtain⟨T1,b1,s1,K1,K2,K3,rfl,hm1,hs1⟩:=hl.at_.meth;have c0:w.cell? ⟨b,0,none⟩=some (.iface T1 (.pointer (some ⟨b1,0,none⟩))):=hbl.cell 0;have c1:w.cell? ⟨b,1,none⟩=some vr:=hbl.cell 1;have n1:=hm1.size.nil_;have n2:=hm1.size.mth;have n3:=hm1.size.ent;have HM1:=lh hm1;have ta:=asIn;have tb:=asInLf;have S0:=Ext.rfl' w;have hnI:¬(n:Int)<(l.text.length:Int):=om;have hwr:(n:Int)-(l.text.length:Int)=((n-l.text.length:Nat):Int):=om;obtain⟨a,ha⟩:∃a,a=l.text.length:=⟨_,rfl⟩;obtain⟨d,hd⟩:∃d,d=n-l.text.length:=⟨_,rfl⟩;have hwd:IntKind.i64.wrap (d:Int)=(d:Int):=wj
 rw[<-hd] at HC hwr
 rw[<-ha] at hwr hnI HM1;have hln:=hl.n
 rw[<-ha] at hln;have HC':=fun(w':World) (x:Ext w w')=>lh (HC w' x _ (hr.ext M x));have HBL:=lh hbl;clear HC hm1 hs1 h hn ha hd hbl;unfold inV;go_enter Tryz.func96,Tryz.ntmps96
 go_upto_region 9 with(go_at_fn K1;refine(HM1.out.size.call _ S0).mono ?_;rintro e wa ⟨rfl,rfl⟩)
 have d0:=fun(w':World) (h:Kp [gb] w w')=>h.cell c0 (by simpa using Blk.neT HBL.out hb de);have d1:=fun(w':World) (h:Kp [gb] w w')=>h.cell c1 (by simpa using Blk.neT HBL.out hb de);refine Xr.start [gb] kr ?_;refine Xtk 0 ?_
 iterate 9(refine Xtn ?_)
 refine Xcl 10 fun w1 hE1 hK1 K hKK=>?_;go_simp;refine(HM1.out.size.call w1 hE1).mono ?_;rintro e w2 ⟨rfl,rfl⟩;refine hKK _ _ (Ext.rfl' _) ?_;clear hKK;refine ptm ?_;refine Xr.take 11 (some 53) (v:=.int .i64 d) rfl rfl dK (by rfl) (fun w' hk=>by go_simp) ?_;refine ptm ?_;refine Xsp 12 fun w3 hE3 hK3 K hKK=>?_;go_simp;refine(HC' w3 (hE1.trans hE3)).out.mono ?_;rintro e w5 ⟨v',A,c,rfl,k5⟩;refine hKK _ _ (WI_kp k5.kp si) (hK3.kpP k5.kp si) ?_;clear hKK;refine ptm ?_;refine Xtk 13 ?_
 iterate 4(refine Xtn ?_)
 refine Xdn fun w6 hE6 hK6=>?_;have c6:=d0 w6 hK6;have KK6:=lh hK6.kpPs;have BD6:=lh (k5.bd.ext hE6);have IL6:=lh (k5.il.ext hE6);have TY6:=lh (k5.ty.ext hE6);have HP:=lh (catO_any M gb hgb w6 (KpP.extOf KK6.out x0 hgb) q BD6.out hq _ _ (some l) o (Tr.kp M hl hb KK6.out) (TrO.ext M hE6 k5.tr) al ao ht);clear hE1 hK1 hE3 hK3 hE6 hK6 k5 d0 d1 c0 c1 HC' n1 n2 n3 HM1 hl hr HBL
 go_wp2_with (go_at_call 99;refine HP.out.mono ?_;rintro e w7 ⟨v7,rfl,t7,b7,k7⟩)
 go_ret2
 exact⟨v7,A,c,rfl,t7,IL6.out.kpB TY6.out BD6.out k7,TY6.out.kpP k7 (TyQ.one BD6.out) de,b7,KK6.out.trans k7⟩
theorem tail_right {w0:World}{g:Nat}{ok:Int->Prop}{S:World->Nat->List Int->Prop}(M:Mo w0 g ok S)(w:World)(x0:Ext w0 w)(gb k:Nat)(hb:BdAt w gb g k)(v:Value)(l r:Sh)(n:Nat)(h:Tr S ok w v (.nd l r))(hn:l.text.length<=n)(hn2:n<=1000000)(o:Option Sh)(bf:List Int)(q:Nat)
 (HC:∀w',Ext w w'->∀v',Tr S ok w' v' r->Calls Tryz.prog 97 #[.pointer (some ⟨gb,0,none⟩),v',.int .i64 (n-l.text.length:Nat)] w' (RetTl S ok gb g q o bf w')) :
 Calls Tryz.prog 97 #[.pointer (some ⟨gb,0,none⟩),v,.int .i64 n] w (RetTl S ok gb g q o bf w):=by
 obtain⟨b,vl,vr,gs,rfl,hbl,hl,hr⟩:=h.nd;obtain⟨T1,b1,s1,K1,K2,K3,rfl,hm1,hs1⟩:=hl.at_.meth;have c0:w.cell? ⟨b,0,none⟩=some (.iface T1 (.pointer (some ⟨b1,0,none⟩))):=hbl.cell 0;have c1:w.cell? ⟨b,1,none⟩=some vr:=hbl.cell 1;have n1:=hm1.size.nil_;have n2:=hm1.size.mth;have n3:=hm1.size.ent;have HM1:=lh hm1;have ta:=asIn;have tb:=asInLf;have S0:=Ext.rfl' w;have hnI:(l.text.length:Int)<=(n:Int):=om;have hwr:(n:Int)-(l.text.length:Int)=((n-l.text.length:Nat):Int):=om;obtain⟨a,ha⟩:∃a,a=l.text.length:=⟨_,rfl⟩;obtain⟨d,hd⟩:∃d,d=n-l.text.length:=⟨_,rfl⟩;have hwd:IntKind.i64.wrap (d:Int)=(d:Int):=wj
 rw[<-hd] at HC hwr
 rw[<-ha] at hwr hnI HM1;have hln:=hl.n
 rw[<-ha] at hln;have HC':=fun(w':World) (x:Ext w w')=>lh (HC w' x _ (hr.ext M x));have HBL:=lh hbl;clear HC hm1 hs1 h hn ha hd hbl;unfold inV;go_enter Tryz.func97,Tryz.ntmps97
 go_upto_region 8 with(go_at_fn K1;refine(HM1.out.size.call _ S0).mono ?_;rintro e wa ⟨rfl,rfl⟩)
 have d0:=fun(w':World) (h:Kp [gb] w w')=>h.cell c0 (by simpa using Blk.neT HBL.out hb de);have d1:=fun(w':World) (h:Kp [gb] w w')=>h.cell c1 (by simpa using Blk.neT HBL.out hb de);refine Xr.start [gb] kr ?_;refine Xtk 0 ?_
 iterate 9(refine Xtn ?_)
 refine Xcl 10 fun w1 hE1 hK1 K hKK=>?_;go_simp;refine(HM1.out.size.call w1 hE1).mono ?_;rintro e w2 ⟨rfl,rfl⟩;refine hKK _ _ (Ext.rfl' _) ?_;clear hKK;refine ptm ?_;refine Xr.take 11 (some 43) (v:=.int .i64 d) rfl rfl dK (by rfl) (fun w' hk=>by go_simp) ?_;refine ptm ?_;refine Xsp 12 fun w3 hE3 hK3 K hKK=>?_;go_simp;refine(HC' w3 (hE1.trans hE3)).out.mono ?_;rintro e w5 ⟨v',A,c,rfl,k5⟩;refine hKK _ _ (WI_kp k5.kp si) (hK3.kpP k5.kp si) ?_;clear hKK;refine ptm ?_;refine Xtk 13 ?_
 iterate 3(refine Xtn ?_)
 refine Xdn fun w6 hE6 hK6=>?_
 go_wp2_with fail
 go_ret2
 exact⟨v',A,c,rfl,TrO.ext M hE6 k5.tr,k5.il.ext hE6,k5.ty.ext hE6,k5.bd.ext hE6,hK6.kpPs⟩
theorem tail_left {w0:World}{g:Nat}{ok:Int->Prop}{S:World->Nat->List Int->Prop}(M:Mo w0 g ok S)(w:World)(x0:Ext w0 w)(gb k:Nat)(hgb:w0.heap.size<=gb)(hb:BdAt w gb g k)(v:Value)(l r:Sh)(n:Nat)(h:Tr S ok w v (.nd l r))(hn:n<l.text.length)(o:Option Sh)(bf:List Int)(q:Nat)(hq:q<=800000)(ar:Sh.Av r)(ao:AvO o)(ht:(txtO o).length+r.text.length<=65536)
 (HC:∀v',Tr S ok w v' l->Calls Tryz.prog 97 #[.pointer (some ⟨gb,0,none⟩),v',.int .i64 n] w (RetTl S ok gb g q o bf w)) :
 Calls Tryz.prog 97 #[.pointer (some ⟨gb,0,none⟩),v,.int .i64 n] w (RetTl S ok gb g (q+(catO o (some r)).2) (catO o (some r)).1 bf w):=by
 obtain⟨b,vl,vr,gs,rfl,hbl,hl,hr⟩:=h.nd;obtain⟨T1,b1,s1,K1,K2,K3,rfl,hm1,hs1⟩:=hl.at_.meth;have c0:w.cell? ⟨b,0,none⟩=some (.iface T1 (.pointer (some ⟨b1,0,none⟩))):=hbl.cell 0;have c1:w.cell? ⟨b,1,none⟩=some vr:=hbl.cell 1;have n1:=hm1.size.nil_;have n2:=hm1.size.mth;have n3:=hm1.size.ent;have HM1:=lh hm1;have ta:=asIn;have tb:=asInLf;have S0:=Ext.rfl' w;have hnI:¬(l.text.length:Int)<=(n:Int):=om;have H:=lh (HC _ hl);have HR:=lh hr;have HBL:=lh hbl;have hln:=hl.n;clear HC hm1 hl hr hs1 h hn hbl;unfold inV;go_enter Tryz.func97,Tryz.ntmps97
 go_upto_region 9 with(go_at_fn K1;refine(HM1.out.size.call _ S0).mono ?_;rintro e wa ⟨rfl,rfl⟩)
 clear n1 n2 n3 HM1
 go_upto_region 10 with(go_at_call 97;refine H.out.mono ?_;rintro e w1 ⟨v',A,c,rfl,k1⟩)
 have c6:=(KpP.kps k1.kp).cell c1 (by simpa using Blk.neT HBL.out hb de);have HP:=lh (catO_any M gb hgb w1 (KpP.extOf k1.kp x0 hgb) q k1.bd hq _ _ o (some r) k1.tr (Tr.kp M HR.out hb k1.kp) ao ar ht);have K1':=lh k1;clear k1 c0 c1 H HR HBL
 go_wp2_with (go_at_call 99;refine HP.out.mono ?_;rintro e w7 ⟨v7,rfl,t7,b7,k7⟩)
 go_ret2
 exact⟨v7,A,c,rfl,t7,K1'.out.il.kpB K1'.out.ty K1'.out.bd k7,K1'.out.ty.kpP k7 (TyQ.one K1'.out.bd) de,b7,K1'.out.kp.trans k7⟩
theorem head_any {w0:World}{g:Nat}{ok:Int->Prop}{S:World->Nat->List Int->Prop}(M:Mo w0 g ok S)(gb:Nat)(hgb:w0.heap.size<=gb):∀(t:Sh) (w:World) (_:Ext w0 w) (k:Nat) (_:BdAt w gb g k) (_:k<=600000) (v:Value) (n:Nat) (_:Tr S ok w v t) (_:Sh.Av t) (_:n<=t.text.length),
 Calls Tryz.prog 96 #[.pointer (some ⟨gb,0,none⟩),v,.int .i64 n] w (RetHd S ok gb g (k+(hdS t n).2.2) (hdS t n).1 (hdS t n).2.1 w)
 | .lf ts,w,x0,k,hb,hk,v,n,h,_,hn=>head_leaf w gb k hb v ts n h hn
 | .nd l r,w,x0,k,hb,hk,v,n,h,ha,hn=>by
  obtain⟨al,ar,_,_⟩:=ha;have hN:=h.n;have e1:(Sh.nd l r).text.length=l.text.length+r.text.length:=by simp[Sh.text]
  rw[e1] at hN hn;unfold hdS;by_cases h1:n<l.text.length
  ·rw[if_pos h1];exact head_left w x0 gb k hb v l r n h h1 _ _ _ (fun v' h'=>head_any M gb hgb l w x0 k hb hk v' n h' al om)
  ·rw[if_neg h1];obtain⟨i1,i2,i3,i4,i5⟩:=hdS_ok (n-l.text.length) ar;have hh:=Sh.Av.hgt_le ar om;have ht:(txtO (hdS r (n-l.text.length)).1).length<=r.text.length:=by
    have:=congrArg List.length i2;rw[List.length_append,List.length_take] at this;omega
   simp only
   rw[<-Nat.add_assoc];exact head_right M w x0 gb k hgb hb v l r n h om om _ _ _ om al i1 om (fun w' x v' h'=>head_any M gb hgb r w' (x0.trans x) k (hb.ext x) hk v' _ h' ar om)
theorem tail_any {w0:World}{g:Nat}{ok:Int->Prop}{S:World->Nat->List Int->Prop}(M:Mo w0 g ok S)(gb:Nat)(hgb:w0.heap.size<=gb):∀(t:Sh) (w:World) (_:Ext w0 w) (k:Nat) (_:BdAt w gb g k) (_:k<=600000) (v:Value) (n:Nat) (_:Tr S ok w v t) (_:Sh.Av t) (_:n<=t.text.length),
 Calls Tryz.prog 97 #[.pointer (some ⟨gb,0,none⟩),v,.int .i64 n] w (RetTl S ok gb g (k+(tlS t n).2.2) (tlS t n).2.1 (tlS t n).1 w)
 | .lf ts,w,x0,k,hb,hk,v,n,h,_,hn=>tail_leaf w gb k hb v ts n h hn
 | .nd l r,w,x0,k,hb,hk,v,n,h,ha,hn=>by
  obtain⟨al,ar,_,_⟩:=ha;have hN:=h.n;have e1:(Sh.nd l r).text.length=l.text.length+r.text.length:=by simp[Sh.text]
  rw[e1] at hN hn;unfold tlS;by_cases h1:l.text.length<=n
  ·rw[if_pos h1];exact tail_right M w x0 gb k hb v l r n h h1 om _ _ _ (fun w' x v' h'=>tail_any M gb hgb r w' (x0.trans x) k (hb.ext x) hk v' _ h' ar om)
  ·rw[if_neg h1];obtain⟨i1,i2,i3,i4,i5⟩:=tlS_ok n al;have hh:=Sh.Av.hgt_le al om;have ht:(txtO (tlS l n).2.1).length<=l.text.length:=by
    have:=congrArg List.length i2;rw[List.length_append,List.length_drop] at this;omega
   simp only
   rw[<-Nat.add_assoc];exact tail_left M w x0 gb k hgb hb v l r n h om _ _ _ om ar i1 om (fun v' h'=>tail_any M gb hgb l w x0 k hb hk v' n h' al om)
def RpAt (S:World->Nat->List Int->Prop)(ok:Int->Prop)(w:World)(gr g:Nat)(o:Option Sh)(k:Nat):Prop:=∃v,Blk w gr 176 #[.pointer (some ⟨g,0,none⟩),v,.int .i64 k]/\TrO S ok w v o
theorem RpAt.ext {w0:World}{g:Nat}{ok:Int->Prop}{S:World->Nat->List Int->Prop}(M:Mo w0 g ok S){w w':World}{gr k:Nat}{o:Option Sh}(h:RpAt S ok w gr g o k)(x:Ext w w'):RpAt S ok w' gr g o k:=by
 obtain⟨v,hb,ht⟩:=h;exact⟨v,hb.ext x,ht.ext M x⟩
def RetRp (S:World->Nat->List Int->Prop)(ok:Int->Prop)(g:Nat)(o:Option Sh)(k:Nat)(w:World)(e:Ending)(w':World):Prop:=∃gr,e=.returned (.tuple #[.pointer (some ⟨gr,0,none⟩),.int .i64 0])/\RpAt S ok w' gr g o k/\Ext w w'
theorem rope_any {w0:World}{g:Nat}{ok:Int->Prop}{S:World->Nat->List Int->Prop}(M:Mo w0 g ok S)(w:World)(gb k:Nat)(hb:BdAt w gb g k)(v:Value)(o:Option Sh)(h:TrO S ok w v o) :
 Calls Tryz.prog 93 #[.pointer (some ⟨gb,0,none⟩),v] w (RetRp S ok g o k w):=by
 obtain⟨b0,b1,b2,_⟩:=Blk.c3 hb;have d0:=kc0 b0;have d1:=kc0 b1;have hv:v=.nilIface\/∃T p,v=.iface T (.pointer p):=by
  cases o with
  | none=>exact .inl h
  | some t=>obtain⟨T,b,s1,K1,K2,K3,e,_⟩:=h.at_.meth;exact .inr ⟨T,_,e⟩
 rcases hv with rfl|⟨T,p,rfl⟩
 all_goals
  go_enter Tryz.func93,Tryz.ntmps93
  go_upto_region 3 with fail
  refine Xr.start [] kr ?_;refine Xtk 0 ?_
  iterate 9(refine Xtn ?_)
  refine Xsp 10 fun w1 hE1 hK1 K hKK=>?_;go_simp;have XN:=fun o=>Ext.alloc w1 o;refine hKK _ _ (KpP.of_ext (XN _)) (hK1.ext (XN _)) ?_;clear hKK;refine ptm ?_;have BN:=fun v=>Blk.new w1 176 #[.pointer (some ⟨g,0,none⟩),v,.int .i64 k];refine Xtk 11 ?_;refine Xtn ?_;refine Xdn fun w2 hE2 hK2=>?_
  go_wp2_with fail
  go_ret2
  exact⟨w1.heap.size,rfl,⟨_,(BN _).ext hE2,h.ext M hK2.nil⟩,hK2.nil⟩
theorem IL.ne {w:World}{A:Option Addr}{c:Nat}{xs:List Int}(h:IL w A c xs)(h0:xs≠[]){gb:Nat}(hg:w.heap.size<=gb):NeA gb A:=fun b hb e=>by
 subst e;obtain⟨b',o,rfl,hc⟩:=h.at_ h0;cases hb
 have h1:=hc 0 (List.length_pos_iff.2 h0);have h2:w.heap[b']? = none:=Array.getElem?_eq_none hg;simp[World.cell?,h2] at h1
theorem onew_any {w0:World}{g:Nat}{ok:Int->Prop}{S:World->Nat->List Int->Prop}(M:Mo w0 g ok S)(w:World)(x0:Ext w0 w)(A:Option Addr)(c:Nat)(ts:List Int)(hi:IL w A c ts)(okt:∀x∈ts,ok x)(htl:ts.length<=65536) :
 Calls Tryz.prog 45 #[.pointer (some ⟨g,0,none⟩),.slice A ts.length c] w (RetRp S ok g (treeS ts).1 (treeS ts).2 w):=by
 have XN:=Ext.alloc w (.cells #[.pointer (some ⟨g,0,none⟩),.int .i64 0,.int .i64 0] 170);have BN:BdAt (w.alloc (.cells #[.pointer (some ⟨g,0,none⟩),.int .i64 0,.int .i64 0] 170)) w.heap.size g 0:=Blk.new w 170 #[.pointer (some ⟨g,0,none⟩),.int .i64 0,.int .i64 0];obtain⟨w1,hw1⟩:∃w1,w1=w.alloc (.cells #[.pointer (some ⟨g,0,none⟩),.int .i64 0,.int .i64 0] 170):=⟨_,rfl⟩;obtain⟨gb,hgb⟩:∃gb,gb=w.heap.size:=⟨_,rfl⟩
 rw[<-hw1] at XN BN
 rw[<-hgb] at BN;have hgb0:w0.heap.size<=gb:=by rw[hgb];exact x0.size
 have HT:=lh (tree_any M gb hgb0 w1 (x0.trans XN) 0 BN om A c ts (hi.ext XN) (fun h=>hi.ne h om) okt htl);rw[Nat.zero_add] at HT;have HXN:=lh (And.intro XN (Nat.le_of_eq hgb.symm));have hcap:=hi.len;have hI:¬(ts.length:Int)>65536:=om;have hJ:¬(65536:Int)<ts.length:=om;have HW:=lh hw1;have HG:=lh hgb;generalize treeS ts=q at *;clear hi okt hw1 hgb XN BN;go_enter Tryz.func45,Tryz.ntmps45
 go_upto_region 6 with fail
 rw[<-HW.out,<-HG.out]
 go_wp2_with (first|(have hq:=HRR;go_at_call 93;refine HRR.out.mono ?_;rintro e w3 ⟨gr,rfl,hr3,x3⟩)|(go_at_call 94;refine HT.out.mono ?_;rintro e w2 ⟨v2,rfl,t2,b2,k2⟩;have HRR:=lh (rope_any M w2 gb _ b2 v2 _ t2)))
 go_ret2
 exact⟨gr,rfl,hr3,(Ext.kp HXN.out.1 k2 (fun i hi=>by rw[hi];exact HXN.out.2)).trans x3⟩
theorem olen_any {S:World->Nat->List Int->Prop}{ok:Int->Prop}(w:World)(gr g k:Nat)(o:Option Sh)(h:RpAt S ok w gr g o k):Calls Tryz.prog 51 #[.pointer (some ⟨gr,0,none⟩)] w (RetE (.int .i64 (txtO o).length) w):=by
 obtain⟨v,hb,ht⟩:=h;obtain⟨b0,b1,b2,_⟩:=hb.c3
 cases o with
 | none=>
  subst ht;go_enter Tryz.func51,Tryz.ntmps51
  go_wp2
  go_ret
  exact⟨rfl,rfl⟩
 | some t=>
  obtain⟨T,b,s1,K1,K2,K3,rfl,hm,_⟩:=ht.at_.meth;have n1:=hm.size.nil_;have n2:=hm.size.mth;have n3:=hm.size.ent;have HS:=lh (hm.size.call w (Ext.rfl' _));go_enter Tryz.func51,Tryz.ntmps51
  go_wp2_with (refine HS.out.mono ?_;rintro e w1 ⟨rfl,rfl⟩)
  go_ret
  exact⟨rfl,rfl⟩
theorem oheight_any {S:World->Nat->List Int->Prop}{ok:Int->Prop}(w:World)(gr g k:Nat)(o:Option Sh)(h:RpAt S ok w gr g o k):Calls Tryz.prog 48 #[.pointer (some ⟨gr,0,none⟩)] w (RetE (.int .i64 (hgtO o)) w):=by
 obtain⟨v,hb,ht⟩:=h;obtain⟨b0,b1,b2,_⟩:=hb.c3
 cases o with
 | none=>
  subst ht;go_enter Tryz.func48,Tryz.ntmps48
  go_wp2
  go_ret
  exact⟨rfl,rfl⟩
 | some t=>
  obtain⟨T,b,s1,K1,K2,K3,rfl,hm,_⟩:=ht.at_.meth;have n1:=hm.height.nil_;have n2:=hm.height.mth;have n3:=hm.height.ent;have HS:=lh (hm.height.call w (Ext.rfl' _));go_enter Tryz.func48,Tryz.ntmps48
  go_wp2_with (refine HS.out.mono ?_;rintro e w1 ⟨rfl,rfl⟩)
  go_ret
  exact⟨rfl,rfl⟩
theorem omade_any {S:World->Nat->List Int->Prop}{ok:Int->Prop}(w:World)(gr g k:Nat)(o:Option Sh)(h:RpAt S ok w gr g o k):Calls Tryz.prog 46 #[.pointer (some ⟨gr,0,none⟩)] w (RetE (.int .i64 k) w):=by
 obtain⟨v,hb,ht⟩:=h;obtain⟨b0,b1,b2,_⟩:=hb.c3;go_enter Tryz.func46,Tryz.ntmps46
 go_wp2
 go_ret
 exact⟨rfl,rfl⟩
theorem osum_any {w0:World}{g:Nat}{ok:Int->Prop}{S:World->Nat->List Int->Prop}(M:Mo w0 g ok S)(w:World)(x0:Ext w0 w)(gr k:Nat)(o:Option Sh)(h:RpAt S ok w gr g o k) :
 Calls Tryz.prog 59 #[.pointer (some ⟨gr,0,none⟩)] w (fun e w'=>∃gs,e=.returned (.pointer (some ⟨gs,0,none⟩))/\S w' gs (txtO o)/\Ext w w'):=by
 obtain⟨v,hb,ht⟩:=h;obtain⟨b0,b1,b2,_⟩:=hb.c3
 cases o with
 | none=>
  subst ht;have HE:=lh (M.emp w x0);go_enter Tryz.func59,Tryz.ntmps59
  go_wp2_with (go_at_call 35;refine HE.out.mono ?_;rintro e w1 ⟨gs,rfl,hs,x1⟩)
  go_ret
  exact⟨gs,rfl,hs,x1⟩
 | some t=>
  obtain⟨T,b,s1,K1,K2,K3,rfl,hm,hs⟩:=ht.at_.meth;have n1:=hm.sum.nil_;have n2:=hm.sum.mth;have n3:=hm.sum.ent;have HS:=lh (hm.sum.call w (Ext.rfl' _));go_enter Tryz.func59,Tryz.ntmps59
  go_wp2_with (refine HS.out.mono ?_;rintro e w1 ⟨rfl,rfl⟩)
  go_ret
  exact⟨s1,rfl,hs,Ext.rfl' _⟩
theorem madeCells_1 (v:Value)(n:Nat):madeCells #[v] (n*1)=((List.replicate n v)).toArray:=by
 unfold madeCells;refine Array.ext si (fun i h1 h2=>?_);simp[Nat.mod_one]
theorem mkI (n:Nat)(h:n<=1000000)(W:World):(Instr.makeSlice 22 (.int .i64 (n:Int)) (.int .i64 (n:Int))).run Tryz.prog W=.ok (.slice (some ⟨W.heap.size,0,none⟩) n n) (W.alloc (.cells (List.replicate n (.int .i64 0)).toArray 3)):=by
 obtain⟨i0,hi0,hz0,hz1,hz2⟩:=info_parts infoInt;have:=run_make (P:=Tryz.prog) W 22 3 i0 (.int .i64 0) Tryz.underlying22 hi0 hz0 .i64 .i64 n n om (Int.le_refl _) (by rw[hz2];omega) om;rw[this,hz1];simp only[Int.toNat_natCast,Value.cells];rw[madeCells_1]
theorem zero_il (w:World)(n:Nat)(h:n<=1000000):IL (w.alloc (.cells (List.replicate n (.int .i64 0)).toArray 3)) (some ⟨w.heap.size,0,none⟩) n (List.replicate n 0):=by
 refine⟨by simp,by unfold maxLen;omega,fun x hx=>by rw[(List.mem_replicate.1 hx).2];unfold I64;omega,fun _=>⟨_,0,rfl,fun i hi=>?_⟩⟩;have hb:=Blk.new w 3 (List.replicate n (Value.int .i64 0)).toArray;have hi':i<n:=by simpa using hi
 rw[Nat.zero_add,hb.cell i];simp[hi']
theorem head_nil {g:Nat}{ok:Int->Prop}{S:World->Nat->List Int->Prop}(w:World)(gb k:Nat)(hb:BdAt w gb g k)(x:Value) :
 Calls Tryz.prog 96 #[.pointer (some ⟨gb,0,none⟩),.nilIface,x] w (RetHd S ok gb g k none [] w):=by
 have ta:=asNil;have ta1:=fun w=>(ta w).1;have ta2:=fun w=>(ta w).2;clear ta;go_enter Tryz.func96,Tryz.ntmps96
 go_wp2
 go_ret2
 exact⟨.nilIface,none,0,rfl,rfl,IL.nil _,(fun b hb=>by cases hb),hb,KpP.refl _ _⟩
theorem tail_nil {g:Nat}{ok:Int->Prop}{S:World->Nat->List Int->Prop}(w:World)(gb k:Nat)(hb:BdAt w gb g k)(x:Value) :
 Calls Tryz.prog 97 #[.pointer (some ⟨gb,0,none⟩),.nilIface,x] w (RetTl S ok gb g k none [] w):=by
 have ta:=asNil;have ta1:=fun w=>(ta w).1;have ta2:=fun w=>(ta w).2;clear ta;go_enter Tryz.func97,Tryz.ntmps97
 go_wp2
 go_ret2
 exact⟨.nilIface,none,0,rfl,rfl,IL.nil _,(fun b hb=>by cases hb),hb,KpP.refl _ _⟩
theorem headO_any {w0:World}{g:Nat}{ok:Int->Prop}{S:World->Nat->List Int->Prop}(M:Mo w0 g ok S)(gb:Nat)(hgb:w0.heap.size<=gb)(o:Option Sh)(w:World)(x0:Ext w0 w)(k:Nat)(hb:BdAt w gb g k)(hk:k<=600000)(v:Value)(n:Nat)(h:TrO S ok w v o)(ha:AvO o)(hn:n<=(txtO o).length) :
 Calls Tryz.prog 96 #[.pointer (some ⟨gb,0,none⟩),v,.int .i64 n] w (RetHd S ok gb g (k+(hdO o n).2.2) (hdO o n).1 (hdO o n).2.1 w):=by
 cases o with
 | none=>subst h;exact head_nil w gb k hb _
 | some t=>exact head_any M gb hgb t w x0 k hb hk v n h ha hn
theorem tailO_any {w0:World}{g:Nat}{ok:Int->Prop}{S:World->Nat->List Int->Prop}(M:Mo w0 g ok S)(gb:Nat)(hgb:w0.heap.size<=gb)(o:Option Sh)(w:World)(x0:Ext w0 w)(k:Nat)(hb:BdAt w gb g k)(hk:k<=600000)(v:Value)(n:Nat)(h:TrO S ok w v o)(ha:AvO o)(hn:n<=(txtO o).length) :
 Calls Tryz.prog 97 #[.pointer (some ⟨gb,0,none⟩),v,.int .i64 n] w (RetTl S ok gb g (k+(tlO o n).2.2) (tlO o n).2.1 (tlO o n).1 w):=by
 cases o with
 | none=>subst h;exact tail_nil w gb k hb _
 | some t=>exact tail_any M gb hgb t w x0 k hb hk v n h ha hn
def RetEd (S:World->Nat->List Int->Prop)(ok:Int->Prop)(g:Nat)(o:Option Sh)(a d:Int)(l:List Int)(w:World)(e:Ending)(w':World):Prop:=
 (editErr (txtO o).length a d l≠0/\e=.returned (.tuple #[.pointer none,.int .i64 (editErr (txtO o).length a d l)])/\Ext w w')\/
 (editErr (txtO o).length a d l=0/\RetRp S ok g (edS o a.toNat d.toNat l).1 (edS o a.toNat d.toNat l).2 w e w')
theorem oedit_any {w0:World}{g:Nat}{ok:Int->Prop}{S:World->Nat->List Int->Prop}(M:Mo w0 g ok S)(w:World)(x0:Ext w0 w)(gr kold:Nat)(o:Option Sh)(h:RpAt S ok w gr g o kold)(ao:AvO o)(hlen:(txtO o).length<=65536)(a d:Int)(A:Option Addr)(c:Nat)(l:List Int)(hi:IL w A c l)(okl:∀x∈l,ok x)(hd:I64 d)(hll:l.length<=1000000) :
 Calls Tryz.prog 50 #[.pointer (some ⟨gr,0,none⟩),.agg #[.int .i64 a,.int .i64 d,.slice A l.length c]] w (RetEd S ok g o a d l w):=by
 have XE:=lh (Ext.alloc w (.cells #[.int .i64 a,.int .i64 d,.slice A l.length c] 102));have BE:=Blk.new w 102 #[.int .i64 a,.int .i64 d,.slice A l.length c];obtain⟨err,herr⟩:∃err,err=editErr (txtO o).length a d l:=⟨_,rfl⟩;have HER:=lh herr;have HSP:=fun(w':World) (x:Ext w w') (T:Option Addr) (hT:IL w' T (txtO o).length (List.replicate (txtO o).length 0))=>lh (show ∃xs,Calls Tryz.prog 95 #[.slice T (txtO o).length (txtO o).length,.agg #[.int .i64 a,.int .i64 d,.slice A l.length c]] w' (RetSp xs err w') by
  have e0:(List.replicate (txtO o).length (0:Int)).length=(txtO o).length:=List.length_replicate;by_cases he:err=0
  ·refine⟨spliceL (List.replicate (txtO o).length 0) a d l,?_⟩;have h:=splice_ok T (txtO o).length (List.replicate (txtO o).length 0) a d A c l w' hT (hi.ext x) hd om om (by rw[e0,<-herr,he]);rw[e0] at h;rw[he];exact h
  ·refine⟨[],?_⟩;have h:=splice_no T (txtO o).length (List.replicate (txtO o).length 0) a d A c l w' hT (hi.ext x) hd om om (by rw[e0,<-herr];exact he);rw[e0,<-herr] at h;exact h)
 have hcap:=hi.len;clear herr;go_enter Tryz.func50,Tryz.ntmps50
 go_upto_region 1 with fail
 obtain⟨ge,hge⟩:∃ge,ge=w.heap.size:=⟨_,rfl⟩
 rw[<-hge] at BE ⊢;generalize w.alloc (.cells #[.int .i64 a,.int .i64 d,.slice A l.length c] 102)=w1 at *;obtain⟨c0,c1,c2,_⟩:=BE.c3;have d0:=kc0 c0;have d1:=kc0 c1;have d2:=kc0 c2;clear hge;refine Xr.start [] kr ?_;refine Xtk 0 ?_;refine Xr.take 3 (some 18) (v:=.agg #[.int .i64 a,.int .i64 d,.slice A l.length c]) rfl rfl dK (by rfl) (fun w' hk=>by have q0:=d0 w' hk;have q1:=d1 w' hk;have q2:=d2 w' hk;go_simp) ?_;refine ptm ?_;refine Xcl 1 fun w2 hE2 hK2 K hKK=>?_;go_simp;refine(olen_any w2 gr g kold o (RpAt.ext M h (XE.out.trans hE2))).mono ?_;rintro e w3 ⟨rfl,rfl⟩;refine hKK _ _ (Ext.rfl' _) ?_;clear hKK;refine ptm ?_;refine Xsp 2 fun w4 hE4 hK4 K hKK=>?_;have hmk:=mkI (txtO o).length om w4;go_simp;have XM:=Ext.alloc w4 (.cells (List.replicate (txtO o).length (.int .i64 0)).toArray 3);refine hKK _ _ (KpP.of_ext XM) (hK4.ext XM) ?_;clear hKK hmk;have ZI:=zero_il w4 (txtO o).length om;simp only[List.toArray_replicate] at ZI;refine ptm ?_;refine Xcl 4 fun w6 hE6 hK6 K hKK=>?_;go_simp;obtain⟨xs,HX⟩:=(HSP w6 (XE.out.trans hK6.nil) _ (ZI.ext hE6)).out;refine HX.mono ?_;rintro e w7 ⟨A7,c7,rfl,hi7,x7,_⟩;refine hKK _ _ x7 ?_;clear hKK HX;refine ptm ?_;refine Xtk 5 ?_
 iterate 4(refine Xtn ?_)
 refine Xdn fun w8 hE8 hK8=>?_;have X8:=lh hK8.nil;clear hE2 hK2 hE4 hK4 hE6 hK6 hE8 hK8 x7 hi7 ZI XM HSP d0 d1 d2;by_cases he:err=0
 ·subst he;obtain⟨e1,e2,e3,_,e5⟩:=editErr_ok HER.out.symm;obtain⟨n1,rfl⟩:∃n1:Nat,a=n1:=⟨a.toNat,om⟩;obtain⟨m1,rfl⟩:∃m1:Nat,d=m1:=⟨d.toNat,om⟩;have XW8:=lh (XE.out.trans X8.out);obtain⟨v,hbR,ht⟩:=RpAt.ext M h XW8.out;obtain⟨r0,r1,r2,_⟩:=hbR.c3;replace c0:=X8.out.cell c0;replace c1:=X8.out.cell c1;replace c2:=X8.out.cell c2;have BE8:=BE.ext X8.out;have HI8:=lh (hi.ext XW8.out);have XX8:=lh (x0.trans XW8.out);have n1e:n1<=(txtO o).length:=om;have nme:n1+m1<=(txtO o).length:=om;have hK0:=hdO_ok n1 ao;have hK1:=tlO_ok (n1+m1) ao;have hho:=AvO.hgt_le ao om;have H0:=lh hK0;have H1:=lh hK1;have HE5:=lh e5;have hcap2:l.length<=1000000:=hll;have HOT:Hid (∀x∈txtO o,ok x):=lh (by cases o with|none=>(intro x hx;cases hx)|some t=>exact ht.ok_);clear e1 e2 e3 e5 hK0 hK1 BE h hi X8 XE
  go_upto_region 5 with fail
  have XN:=Ext.alloc w8 (.cells #[.pointer (some ⟨g,0,none⟩),.int .i64 0,.int .i64 0] 170);have BN:BdAt (w8.alloc (.cells #[.pointer (some ⟨g,0,none⟩),.int .i64 0,.int .i64 0] 170)) w8.heap.size g 0:=Blk.new w8 170 #[.pointer (some ⟨g,0,none⟩),.int .i64 0,.int .i64 0];obtain⟨gb,hgb⟩:∃gb,gb=w8.heap.size:=⟨_,rfl⟩
  rw[<-hgb] at BN ⊢;have hgb0:w0.heap.size<=gb:=by have:=XX8.out.size;omega
  have HGB:=lh (show w8.heap.size<=gb by omega);have hgbw:Hid (w.heap.size<=gb):=lh (by have:=XW8.out.size;omega);clear hgb;generalize w8.alloc (.cells #[.pointer (some ⟨g,0,none⟩),.int .i64 0,.int .i64 0] 170)=w9 at *;have HX9:=lh (XX8.out.trans XN);have HW9:=lh (XW8.out.trans XN);have hbR9:=hbR.ext XN;have BE9:=BE8.ext XN;have HT9:=lh (ht.ext M XN);have HI9:=lh (HI8.out.ext XN);have q1:=fun(w':World) (h:Kp [gb] w9 w')=>h.cell (XN.cell r1) (by simpa using Blk.neT hbR9 BN de);have q2:=fun(w':World) (h:Kp [gb] w9 w')=>h.cell (XN.cell c0) (by simpa using Blk.neT BE9 BN de);have q3:=fun(w':World) (h:Kp [gb] w9 w')=>h.cell (XN.cell c1) (by simpa using Blk.neT BE9 BN de);have q4:=fun(w':World) (h:Kp [gb] w9 w')=>h.cell (XN.cell c2) (by simpa using Blk.neT BE9 BN de);have Q1:=lh q1;have Q2:=lh q2;have Q3:=lh q3;have Q4:=lh q4;have HI8':Hid (l≠[]->NeA gb A):=lh (fun h0=>HI8.out.ne h0 HGB.out);clear r0 r1 r2 c0 c1 c2 hbR ht BE8 HI8 XX8 XN XW8 hbR9 BE9 q3 q4;refine Xr.start [gb] kr ?_;refine Xtk 0 ?_
  iterate 6(refine Xtn ?_)
  refine Xsp 7 fun w10 hE10 hK10 K hKK=>?_;go_simp;refine(headO_any M gb hgb0 o w10 (KpP.extOf hK10.kpPs HX9.out hgb0) 0 (BN.ext hE10) om v n1 (TrO.kp M BN hK10.kpPs HT9.out) ao n1e).mono ?_;rintro e w11 ⟨v1,A1,c1',rfl,k11⟩;refine hKK _ _ (WI_kp k11.kp si) (hK10.kpP k11.kp si) ?_;clear hKK;refine ptm ?_;refine Xtk 8 ?_
  iterate 4(refine Xtn ?_)
  refine Xdn fun w12 hE12 hK12=>?_;have KK12:=lh hK12.kpPs;have HB12:=lh (k11.bd.ext hE12);have T12:=lh (TrO.ext M hE12 k11.tr);have I12:=lh (k11.il.ext hE12);have Y12:=lh (k11.ty.ext hE12);clear hE10 hK10 hE12 k11 q1 q2;have hK12':=hK12;have q1:=fun(w':World) (h:Kp [gb] w12 w')=>Q1.out w' (hK12'.trans h);have q2:=fun(w':World) (h:Kp [gb] w12 w')=>Q2.out w' (hK12'.trans h);have q3:=fun(w':World) (h:Kp [gb] w12 w')=>Q3.out w' (hK12'.trans h);clear hK12;have hwa:IntKind.i64.wrap ((n1:Int)+(m1:Int))=((n1+m1:Nat):Int):=wj
  go_upto_region 6 with fail
  refine Xr.start [gb] kr ?_;refine Xtk 0 ?_
  iterate 8(refine Xtn ?_)
  refine Xr.take 9 (some 52) (v:=.int .i64 ((n1+m1:Nat):Int)) rfl rfl dK (by rfl) (fun w' hk=>by go_simp) ?_;refine ptm ?_;refine Xsp 10 fun w13 hE13 hK13 K hKK=>?_;go_simp;refine(tailO_any M gb hgb0 o w13 (KpP.extOf (hK12'.trans hK13).kpPs HX9.out hgb0) _ (HB12.out.ext hE13) (by have:=H0.out.2.2.2.2;have:=H0.out.2.2.2.1;omega) v (n1+m1) (TrO.kp M BN (hK12'.trans hK13).kpPs HT9.out) ao nme).mono ?_;rintro e w14 ⟨v2,A2,c2',rfl,k14⟩;refine hKK _ _ (WI_kp k14.kp si) (hK13.kpP k14.kp si) ?_;clear hKK;refine ptm ?_;refine Xtk 11 ?_
  iterate 4(refine Xtn ?_)
  refine Xdn fun w15 hE15 hK15=>?_;have KK15:=lh (hK12'.trans hK15).kpPs;have KQ:=lh hK15.kpPs;have HB15:=lh (k14.bd.ext hE15);have T1:=lh (TrO.kp M HB12.out hK15.kpPs T12.out);have I1:=lh (I12.out.kpB Y12.out HB12.out hK15.kpPs);have T2:=lh (TrO.ext M hE15 k14.tr);have I2:=lh (k14.il.ext hE15);have qq4:=Q4.out w15 (hK12'.trans hK15);have HX15:=lh (KpP.extOf KK15.out HX9.out hgb0);have HW15:=lh (KpP.extOf KK15.out HW9.out hgbw.out);have I9:=lh (I12.out);have HIL:=lh (show IL w15 A c l from HI9.out.kp KK15.out (fun h0 b hb e=>by
   subst e;exact absurd rfl (HI8'.out h0 b hb)))
  clear hE13 hK13 hE15 hK15 k14 q1 q2 q3 Q1 Q2 Q3 Q4 hK12' KK12 HB12 T12 I12 Y12 hwa;obtain⟨p,hp⟩:∃p,p=hdO o n1:=⟨_,rfl⟩;obtain⟨q,hq⟩:∃q,q=tlO o (n1+m1):=⟨_,rfl⟩
  rw[<-hp] at H0 T1 I1 HB15
  rw[<-hq] at H1 T2 I2 HB15
  rw[<-hp,<-hq];obtain⟨mid,hmid⟩:∃mid,mid=p.2.1++l++q.1:=⟨_,rfl⟩;obtain⟨kq,hkq⟩:∃kq,kq=0+p.2.2+q.2.2:=⟨_,rfl⟩
  rw[<-hkq] at HB15;have hkq6:kq<=600000:=by have:=H0.out.2.2.2.2;have:=H0.out.2.2.2.1;have:=H1.out.2.2.2.2;have:=H1.out.2.2.2.1;omega
  have hml:mid.length=p.2.1.length+l.length+q.1.length:=by rw[hmid];simp only[List.length_append]
  have hm1:(txtO p.1).length+p.2.1.length=n1:=by have h:=congrArg List.length H0.out.2.1;rw[List.length_append,List.length_take] at h;omega
  have hm2:q.1.length+(txtO q.2.1).length=(txtO o).length-(n1+m1):=by have h:=congrArg List.length H1.out.2.1;rw[List.length_append,List.length_drop] at h;omega
  have hm3:(txtO p.1).length+mid.length+(txtO q.2.1).length<=65536:=by have:=HE5.out;omega
  have okm:∀x∈mid,ok x:=fun x hx=>by
   rw[hmid] at hx;rcases List.mem_append.1 hx with hx|hx
   ·rcases List.mem_append.1 hx with hx|hx
    ·exact HOT.out x (List.mem_of_mem_take (by rw[<-H0.out.2.1];exact List.mem_append_right _ hx))
    ·exact okl x hx
   ·exact HOT.out x (List.mem_of_mem_drop (by rw[<-H1.out.2.1];exact List.mem_append_left _ hx))
  have HOM:=lh okm;have XC:=lh (Ext.alloc w15 (.cells #[.slice A1 p.2.1.length c1',.slice A l.length c,.slice A2 q.1.length c2'] 22));have BC:=Blk.new w15 22 #[.slice A1 p.2.1.length c1',.slice A l.length c,.slice A2 q.1.length c2'];have hflat:[p.2.1,l,q.1].flatten=mid:=by rw[hmid];simp
  have HCC:=concat_any (some ⟨w15.heap.size,0,none⟩) 3 [p.2.1,l,q.1] _ (LL.three BC (I1.out.ext XC.out) (HIL.out.ext XC.out) (I2.out.ext XC.out)) (by rw[hflat];omega);rw[hflat] at HCC;have HCC:=lh HCC;have HM3:=lh (And.intro hm3 (And.intro hml hkq));have HMID:=lh hmid;have HPQ:=lh (And.intro hp hq);have hbl:gb<w15.heap.size:=HB15.out.lt;have HGL:=lh hbl;clear hflat BC okm hm1 hm2 hm3 hml hmid hkq hbl hp hq;generalize hPB:p.2.1.length=pb at *;generalize hQA:q.1.length=qa at *;clear hPB hQA
  go_upto_region 8 with(first|(have hq:=HTR;go_at_call 94;refine HTR.out.mono ?_;rintro e w17 ⟨vm,rfl,t17,b17,k17⟩)|(go_at_call 98;refine HCC.out.mono ?_;rintro e w16 ⟨A3,c3,rfl,hi3,x16,fr3⟩;have HX16:=lh (XC.out.trans x16);have HTR:=lh (tree_any M gb hgb0 w16 (HX15.out.trans HX16.out) kq (HB15.out.ext HX16.out) om A3 c3 mid hi3 (fun _ b hb e=>by have h1:=fr3 b hb;have h2:=HGL.out;have h3:=XC.out.size;omega) HOM.out (by have:=HM3.out.1;omega))))
  have HB16:=HB15.out.ext HX16.out;have T1':=lh (TrO.kp M HB16 k17 (TrO.ext M HX16.out T1.out));have T2':=lh (TrO.kp M HB16 k17 (TrO.ext M HX16.out T2.out));have X17:=lh (KpP.extOf k17 (HX15.out.trans HX16.out) hgb0);have W17:=lh (KpP.extOf k17 (HW15.out.trans HX16.out) hgbw.out);have hts:=treeS_ok mid;obtain⟨m,hm⟩:∃m,m=treeS mid:=⟨_,rfl⟩
  rw[<-hm] at t17 b17 hts;have hm3:=HM3.out;have hcA:=catO_ok (l:=p.1) (r:=m.1) H0.out.1 hts.1;have hh1:=AvO.hgt_le H0.out.1 om;have hh2:=AvO.hgt_le hts.1 (by rw[hts.2.1];omega);have HC1:=lh (catO_any M gb hgb0 w17 X17.out (kq+m.2) b17 om v1 vm p.1 m.1 T1'.out t17 H0.out.1 hts.1 (by rw[hts.2.1];omega));obtain⟨x,hx⟩:∃x,x=catO p.1 m.1:=⟨_,rfl⟩
  rw[<-hx] at hcA HC1;have hl4:(txtO x.1).length=(txtO p.1).length+mid.length:=by rw[hcA.2.1,List.length_append,hts.2.1]
  have hh3:=AvO.hgt_le hcA.1 om;have hh4:=AvO.hgt_le H1.out.1 om;have hcB:=catO_ok (l:=x.1) (r:=q.2.1) hcA.1 H1.out.1;have HK2:Hid (kq+m.2+x.2<=800000):=lh om;have HL2:Hid ((txtO x.1).length+(txtO q.2.1).length<=65536):=lh om;obtain⟨y,hy⟩:∃y,y=catO x.1 q.2.1:=⟨_,rfl⟩;have HED:Hid (edS o n1 m1 l=(y.1,kq+m.2+x.2+y.2)):=lh (by
   unfold edS
   simp only
   rw[<-HPQ.out.1,<-HPQ.out.2,<-HMID.out,<-hm,<-hx,<-hy,hm3.2.2,Nat.zero_add])
  have HA:=lh (And.intro hcA.1 hy);have HB17:=lh b17;clear hts hm3 hcA hh1 hh2 hh3 hh4 hl4 hcB hm hx hy HB16 t17 k17 b17 T1 T2 HX16 HX15 HW15 HTR I1 I2 HIL HI9 HT9 BN
  go_wp2_with (first|(have hq:=HRO;go_at_call 93;refine HRO.out.mono ?_;rintro e w20 ⟨gr',rfl,r20,x20⟩)|(have hq:=HC2;go_at_call 99;refine HC2.out.mono ?_;rintro e w19 ⟨vy,rfl,t19,b19,k19⟩;have W19:=lh (KpP.extOf k19 W18.out hgbw.out);have HRO:=lh (rope_any M w19 gb _ b19 vy _ t19))|(go_at_call 99;refine HC1.out.mono ?_;rintro e w18 ⟨vx,rfl,t18,b18,k18⟩;have W18:=lh (KpP.extOf k18 W17.out hgbw.out);have HC2:=lh (catO_any M gb hgb0 w18 (KpP.extOf k18 X17.out hgb0) (kq+m.2+x.2) b18 HK2.out vx v2 x.1 q.2.1 t18 (TrO.kp M HB17.out k18 T2'.out) HA.out.1 H1.out.1 HL2.out)))
  go_ret2
  refine .inr ⟨by rw[<-HER.out],gr',rfl,?_,W19.out.trans x20⟩;rw[Int.toNat_natCast,Int.toNat_natCast,HED.out]
  rw[<-HA.out.2] at r20;exact r20
 ·have hb:(err != 0)=true:=by simpa using he
  go_wp2_with fail
  go_ret2
  exact .inl ⟨by rw[<-HER.out];exact he,by rw[<-HER.out];rfl,XE.out.trans X8.out⟩
end
section
open Go.RowKit Go.Shelf
attribute [local go_sem ↓] Go.wp_at_zero Go.wp_at_succ
attribute [local go_sem] Oper.semAt_some
theorem Ext.ofB {wB W W':World}(x:Ext wB W)(h:Below wB.heap.size W W'):Ext wB W':=Below.trans x h
theorem YdOk.of {wB:World}{l N n:Nat}{J Jx:List Int->World->Prop}(hY:∀pre x W1,J pre W1->pre.length<N->YieldAt Fence.wide n Tryz.prog l #[Value.int .i64 x] W1 fun e W'=>
 (e=.returned (.bool true)/\J (pre++[x]) W'/\Below wB.heap.size W1 W')\/(e=.returned (.bool false)/\Jx (pre++[x]) W')):YdOk wB l N J Jx:=fun pre x W x0 hj hl m=>
 YieldAt.anyD rfl m (YieldAt.mono (hY pre x W hj hl) fun e W' h=>h.elim (fun⟨he,hj',hb⟩=>.inl ⟨he,hj',x0.ofB hb⟩) .inr)
theorem syms1_any {w0 wB:World}{g:Nat}{S:World->Nat->List Int->Prop}{ok:Int->Prop}{l N:Nat}{J Jx:List Int->World->Prop}(M:Mo w0 g ok S)(hY:YdOk wB l N J Jx)(gr k:Nat)(o:Option Sh)(h:RpAt S ok wB gr g o k)(b1 b2 b3:Nat)(f t:Int)
 (c1:wB.cell? ⟨b1,0,none⟩=some (.pointer (some ⟨gr,0,none⟩))) (c2:wB.cell? ⟨b2,0,none⟩=some (.int .i64 f)) (c3:wB.cell? ⟨b3,0,none⟩=some (.int .i64 t)) (hf:0<=f/\f<=1000000) (ht:0<=t/\t<=1000000) (W:World) (x0:Ext wB W) (hJ:∀W',Ext W W'->J [] W') (hN:(segI (txtO o) f t).length<=N) :
 Calls Tryz.prog 142 #[.func (.yield l) #[] #[],.pointer (some ⟨b1,0,none⟩),.pointer (some ⟨b2,0,none⟩),.pointer (some ⟨b3,0,none⟩)] W
  (fun e W'=>(∃v,e=.returned v)/\(J (segI (txtO o) f t) W'\/∃pre,pre <+: segI (txtO o) f t/\Jx pre W')):=by
 obtain⟨v,hb,hv⟩:=h;have d1:=x0.cell c1;have d2:=x0.cell c2;have d3:=x0.cell c3;have d4:W.cell? ⟨gr,1,none⟩=some v:=x0.cell (hb.cell 1);clear c1 c2 c3 hb
 cases o with
 | none=>
  have hv':v=.nilIface:=hv;subst hv';have e0:segI (txtO none) f t=[]:=by simp[txtO,segI]
  rw[e0];clear hv e0 hN;go_enter Tryz.func142,Tryz.ntmps142
  go_wp2
  exact bodyPost_end (v:=.tuple #[]) (by simp[results,Tryz.results142,go_sem]) rfl ⟨⟨_,rfl⟩,.inl (hJ _ (Ext.rfl' _))⟩
 | some T=>
  have hv':Tr S ok wB v T:=hv;have hn:=hv'.n;have HW:=lh (fun(W':World) (x:Ext W W')=>walk_any M hY T v hv' f t om om [] W' (x0.trans x) (hJ W' x) (by simpa[txtO] using hN));have et:txtO (some T)=T.text:=rfl;rw[et];obtain⟨T1,q1,s1,K1,K2,K3,rfl,_⟩:=hv'.at_.meth;clear hv hv' hN et hn;generalize segI T.text f t=xs at *;go_enter Tryz.func142,Tryz.ntmps142
  go_upto_region 1 with fail
  have j1:=kx0 d1;have j2:=kx0 d2;have j3:=kx0 d3;have j4:=kx0 d4;refine Xe.start 7 kr ?_;refine Xet 0 ?_;refine Xet 1 ?_;refine Xet 2 ?_;refine Xet 3 ?_;refine Xet 4 ?_;refine Xet 5 ?_;refine Xet 6 ?_;refine Xe.last rfl dK (by rfl) (fun w' hE hE0 K hKK=>?_);go_simp;refine(HW.out w' hE0).mono ?_;rintro e W1 (⟨rfl,hJ1,x1⟩|⟨rfl,q,hq,hx1⟩)
  ·refine hKK _ _ ?_;clear hKK HW hJ hY
   go_wp2
   exact bodyPost_end (v:=.tuple #[]) (by simp[results,Tryz.results142,go_sem]) rfl ⟨⟨_,rfl⟩,.inl hJ1⟩
  ·refine hKK _ _ ?_;clear hKK HW hJ hY
   go_wp2
   exact bodyPost_end (v:=.tuple #[]) (by simp[results,Tryz.results142,go_sem]) rfl ⟨⟨_,rfl⟩,.inr ⟨q,hq,hx1⟩⟩
theorem grown_ext {w w':World}(x:Ext w w'):w.grownBy w' none:=⟨x.os,x.tape,x.output,x.size,fun k hk _=>x.block k hk⟩
theorem syms_stops {w0 wB:World}{g:Nat}{S:World->Nat->List Int->Prop}{ok:Int->Prop}(M:Mo w0 g ok S)(n:Nat)(gr k:Nat)(o:Option Sh)(h:RpAt S ok wB gr g o k)(b1 b2 b3:Nat)(f t:Int)
 (c1:wB.cell? ⟨b1,0,none⟩=some (.pointer (some ⟨gr,0,none⟩))) (c2:wB.cell? ⟨b2,0,none⟩=some (.int .i64 f)) (c3:wB.cell? ⟨b3,0,none⟩=some (.int .i64 t)) (hf:0<=f/\f<=1000000) (ht:0<=t/\t<=1000000) :
 SeqStopsK Fence.wide n Tryz.prog 142 #[.pointer (some ⟨b1,0,none⟩),.pointer (some ⟨b2,0,none⟩),.pointer (some ⟨b3,0,none⟩)] (fun x:Int=>#[Value.int .i64 x]) (Below wB.heap.size) (fun ys=>ys=segI (txtO o) f t) (fun pre=>pre <+: segI (txtO o) f t) (segI (txtO o) f t).length wB:=fun l J Jx W hW hJ hJx hY h0=>
 callsIn_wide.2 ((syms1_any M (YdOk.of hY) gr k o h b1 b2 b3 f t c1 c2 c3 hf ht W hW (fun W' x=>hJ [] W W' none h0 (grown_ext x) (fun r e=>by cases e)) (Nat.le_refl _)).mono (by
  rintro e W' ⟨hv,hJ'|hJ'⟩
  ·exact⟨hv,.inl ⟨_,rfl,hJ'⟩⟩
  ·exact⟨hv,.inr hJ'⟩))
theorem appendSeq_any (w:World)(gf:Nat)(lb:Array Value)(eg:∀args w,(callFunc gf args).run Tryz.prog w=.ok (.enter gf args) w)(xs:List Int)(Sp:List Int->Prop)(hN:xs.length<=1000000)(hr:∀x∈xs,I64 x)
 (hseq:SeqStopsK Fence.wide 4 Tryz.prog gf lb (fun x:Int=>#[Value.int .i64 x]) (Below w.heap.size) (fun ys=>ys=xs) Sp xs.length w) :
 Calls Tryz.prog 141 #[.slice none 0 0,.func (.func gf) #[] lb] w (RetOI xs w):=by
 obtain⟨i0,hi,hz0,hz1,hz2⟩:=info_parts infoInt;refine(callsIn_wide (n:=5)).1 ?_;refine callsIn_of_wp_marks Tryz.func141 rfl trivial ?_ rfl;simp only[Tryz.ntmps141,List.size_toArray,List.length_cons,List.length_nil,Nat.reduceAdd,Nat.reduceSub,Array.replicate_succ,Array.replicate_zero,List.push_toArray,List.append_toArray,List.nil_append,List.cons_append]
 gi_wp2
 have bO:=Boxed.new w 22 (.slice none 0 0);have hB0:Below w.heap.size w (w.alloc (.cells #[.slice none 0 0] 22)):=(Below.refl _ w).alloc (Nat.le_refl _) _;refine wpIn_rangeFunc_ownG rfl de (gf:=gf) (lb:=lb) rfl trivial eg hseq belowK_t (belowK_b si) hB0 (fun _=>rfl)
  (fun pre W=>(∃v,Boxed W w.heap.size 22 v/\W.ownsRow w.heap.size 3 1 v pre.length (pre.map (Value.int .i64))/\True)/\Below w.heap.size w W)
  (fun _ _ _=>False)
  (OwnFrom.and (Own.from (holdsRow_own w.heap.size w.heap.size 22 3 1 (fun pre:List Int=>pre.length) (fun pre=>pre.map (Value.int .i64)) (fun pre v=>True)) _) (ownFrom_below (Nat.le_refl _) si))
  (fun _ _ _ _ _ hs _ _=>hs)
  ⟨⟨_,bO,World.ownsRow_nil _ _ _ _,trivial⟩,hB0⟩
  (fun x=>{ tmps:=#[.slice none 0 0,.func (.func gf) #[] lb,.pointer (some ⟨w.heap.size,0,none⟩),undef,.slice none 0 0,.int .i64 x,.func (.func gf) #[] lb,.int .i64 x,undef,undef,undef,undef,undef],defers:=[] }) ?assign ?body ?done ?stop
 case assign=>
  intro l x W K hK
  gi_wp2
  exact hK
 case body=>
  rintro l pre x W ⟨⟨v,hv,hrow,_⟩,hB⟩ hlt;have hc:=hv.cell
  gi_wp2_with (gi_at_builtin;refine wpListIn_append_own _ rfl _ _ 22 rfl w.heap.size 3 i0 (.int .i64 0) 1 8 Tryz.underlying22 hi hz0 hz1 hz2 rfl de _ _ _ rfl (hrow.alloc _) ⟨W.heap.size,0,none⟩ 1 1 [.int .i64 x] rfl rfl (cell_one_new _ _ _) (by simp[Value.oneCell']) um om (by have:=hB.size;simp;omega) ?_;intro v' w1 hown' hgrow _;obtain⟨g',cap',rfl⟩:=ownsRow_succ hown';obtain⟨hv1,hv2,hr2,hk2,hb2⟩:=hv.appended de hrow hB.size (Nat.le_refl _) hown' hgrow;have hc1:=hv1.cell;have hf1:=hv1.frozen)
  exact⟨hk2.from _,hb2,⟨_,hv2,by simpa using hr2,trivial⟩,hB.trans hb2⟩
 case done=>
  rintro D ys W hD rfl ⟨⟨v,hv,hrow,_⟩,hB⟩ hK;have hc:=hv.cell
  gi_wp2
  refine⟨by simp,.inl ⟨_,_,rfl,run_takeDeferred hK,?_⟩⟩;have hrow2:=ownsRow_putObj hrow (.deferred none) hK rfl;have hx2:=hB.trans (belowK_b (w:=w) (Nat.le_refl _) W D _ (.deferred none) (by simp at hD;omega) hK rfl rfl);obtain⟨A,c,rfl⟩:∃A c,v=.slice A ys.length c:=by
   rcases hrow.2 with⟨e,e2⟩|⟨g',cap,cur,e,_⟩
   ·exact⟨none,0,by rw[e,e2]⟩
   ·exact⟨_,_,e⟩
  exact⟨_,results_tmp rfl _ _ _,A,c,rfl,hrow2,hr,hx2⟩
 case stop=>
  rintro D c pre W _ _ h _;exact h.elim
theorem RtAt.rng {S:World->Nat->List Int->Prop}{w:World}:∀{t:Sh} {v:Value},RtAt S w v t->∀x∈t.text,I64 x
 | .lf _,_,⟨_,_,_,_,_,_,hi,_,_⟩=>fun x hx=>hi.rng x hx
 | .nd _ _,_,⟨_,_,_,_,_,_,h1,h2,_⟩=>fun x hx=>by
  rcases List.mem_append.1 hx with hx|hx
  ·exact RtAt.rng h1 x hx
  ·exact RtAt.rng h2 x hx
theorem RpAt.rng {S:World->Nat->List Int->Prop}{ok:Int->Prop}{w:World}{gr g k:Nat}{o:Option Sh}(h:RpAt S ok w gr g o k):∀x∈txtO o,I64 x:=by
 obtain⟨v,_,hv⟩:=h
 cases o with
 | none=>intro x hx;cases hx
 | some t=>exact RtAt.rng (Tr.at_ hv)
theorem segI_mem {ts:List Int}{f t x:Int}(h:x∈segI ts f t):x∈ts:=List.mem_of_mem_take (List.mem_of_mem_drop h)
theorem segI_all (ts:List Int):segI ts 0 ts.length=ts:=by simp[segI]
theorem syms_any (w:World)(gr:Nat)(f t:Int):Calls Tryz.prog 101 #[.pointer (some ⟨gr,0,none⟩),.int .i64 f,.int .i64 t] w
 (fun e w'=>∃b1 b2 b3,e=.returned (.func (.func 142) #[] #[.pointer (some ⟨b1,0,none⟩),.pointer (some ⟨b2,0,none⟩),.pointer (some ⟨b3,0,none⟩)])/\w'.cell? ⟨b1,0,none⟩=some (.pointer (some ⟨gr,0,none⟩))/\w'.cell? ⟨b2,0,none⟩=some (.int .i64 f)/\w'.cell? ⟨b3,0,none⟩=some (.int .i64 t)/\Ext w w'):=by
 obtain⟨B1,B2,B3,X⟩:=alloc3 w 94 #[.pointer (some ⟨gr,0,none⟩)] 3 #[.int .i64 f] 3 #[.int .i64 t];have HB1:=lh B1;have HB2:=lh B2;have HB3:=lh B3;have HX:=lh X;clear B1 B2 B3 X;go_enter Tryz.func101,Tryz.ntmps101
 go_wp2
 go_ret
 exact⟨_,_,_,rfl,HB1.out.c1.1,HB2.out.c1.1,HB3.out.c1.1,HX.out⟩
theorem collect_any (w:World)(gf:Nat)(lb:Array Value)(eg:∀args w,(callFunc gf args).run Tryz.prog w=.ok (.enter gf args) w)(xs:List Int)(Sp:List Int->Prop)(hN:xs.length<=1000000)(hr:∀x∈xs,I64 x)
 (hseq:SeqStopsK Fence.wide 4 Tryz.prog gf lb (fun x:Int=>#[Value.int .i64 x]) (Below w.heap.size) (fun ys=>ys=xs) Sp xs.length w) :
 Calls Tryz.prog 100 #[.func (.func gf) #[] lb] w (RetOI xs w):=by
 have H:=lh (appendSeq_any w gf lb eg xs Sp hN hr hseq);clear hseq hr;go_enter Tryz.func100,Tryz.ntmps100
 go_wp2_with (go_at_call 141;refine H.out.mono ?_;rintro e w1 ⟨A,c,rfl,ho,hi,x1⟩)
 go_ret
 exact⟨A,c,rfl,ho,hi,x1⟩
theorem OwnS.lowB {w:World}{base base' e size n c:Nat}{A:Option Addr}{xs:List Value}(h:OwnS w base' e size A n c xs)(hb:base<=base'):OwnS w base e size A n c xs:=by
 refine⟨h.1,?_⟩;rcases h.2 with h2|⟨g,cap,cur,hv,hg,r⟩
 ·exact Or.inl h2
 ·exact Or.inr ⟨g,cap,cur,hv,Nat.le_trans hb hg,r⟩
theorem otext_any {w0:World}{g:Nat}{S:World->Nat->List Int->Prop}{ok:Int->Prop}(M:Mo w0 g ok S)(w:World)(gr k:Nat)(o:Option Sh)(h:RpAt S ok w gr g o k)(hl:(txtO o).length<=65536):Calls Tryz.prog 55 #[.pointer (some ⟨gr,0,none⟩)] w (RetOI (txtO o) w):=by
 have HL:=lh (olen_any w gr g k o h);have HS:=lh (syms_any w gr 0 (txtO o).length);have HC:=fun(w1:World) (x:Ext w w1) (b1 b2 b3:Nat) (c1:w1.cell? ⟨b1,0,none⟩=some (.pointer (some ⟨gr,0,none⟩))) (c2:w1.cell? ⟨b2,0,none⟩=some (.int .i64 0)) (c3:w1.cell? ⟨b3,0,none⟩=some (.int .i64 (txtO o).length))=>
  lh (collect_any w1 142 #[.pointer (some ⟨b1,0,none⟩),.pointer (some ⟨b2,0,none⟩),.pointer (some ⟨b3,0,none⟩)] Tryz.call142 (segI (txtO o) 0 (txtO o).length) _ (by rw[segI_all];omega) (fun x hx=>h.rng x (segI_mem hx)) (syms_stops M 4 gr k o (h.ext M x) b1 b2 b3 0 (txtO o).length c1 c2 c3 om om))
 rw[segI_all] at HC;clear h;generalize txtO o=ts at *;go_enter Tryz.func55,Tryz.ntmps55
 go_wp2_with (first|(go_at_call 51;refine HL.out.mono ?_;clear HL;rintro e wa ⟨rfl,rfl⟩)|(go_at_call 101;refine HS.out.mono ?_;clear HS;rintro e w1 ⟨b1,b2,b3,rfl,c1,c2,c3,x1⟩)|(go_at_call 100;refine(HC w1 x1 b1 b2 b3 c1 c2 c3).out.mono ?_;rintro e w2 ⟨A,c,rfl,ho,hi,x2⟩))
 go_ret
 have ho':OwnI w2 w.heap.size 3 A c ts:=OwnS.lowB ho x1.size;exact⟨A,c,rfl,ho',hi,x1.trans x2⟩
end
end Go.Proofs.YtmocoldobnimfaaGreat
