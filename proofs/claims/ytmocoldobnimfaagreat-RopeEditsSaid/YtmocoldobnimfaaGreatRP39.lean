/- Texts of this proof: R5 R6 R7. -/
import Derived.Test.YtmocoldobnimfaaGreatRP28
import Derived.Test.YtmocoldobnimfaaGreatRP38
set_option linter.all false
set_option maxRecDepth 100000
set_option maxHeartbeats 16000000
namespace Go.Proofs.YtmocoldobnimfaaGreat
section
open Go.RowKit
attribute [local go_sem ↓] Go.wp_at_zero Go.wp_at_succ
theorem c11 {P:Prop}(h:P:=by
 go_upto_region 11 with(first|(go_at_fn K2;refine(HM1.out.height.call _ S0).mono ?_;rintro e wa ⟨rfl,rfl⟩)|(go_at_fn K5;refine(HM2.out.height.call _ S0).mono ?_;rintro e wa ⟨rfl,rfl⟩))
 have HP:=lh (pair_any M w x0 gb k hgb hb om _ _ _ _ hl hr hn (by simp only[Sh.hgt] at hh ⊢;omega));clear hl hr hn hh HM1 HM2 n1 n2 n3 n4 n5 n6 hs1 hs2
 go_wp2_with (go_at_call 140;refine HP.out.mono ?_;rintro e w1 ⟨v1,rfl,k1⟩)
 go_ret
 exact⟨v1,rfl,k1⟩):P:=h
theorem cat_pair {w0:World}{g:Nat}{ok:Int→Prop}{S:World→Nat→List Int→Prop}(M:Mo w0 g ok S)(w:World)(x0:Ext w0 w)(gb k:Nat)(hgb:w0.heap.size≤gb)(hb:BdAt w gb g k)(hk:k≤900000)(vl vr:Value)(l r:Sh)(hl:Tr S ok w vl l)(hr:Tr S ok w vr r)
 (hn:l.text.length+r.text.length≤65536) (h1:¬r.hgt+1<l.hgt) (h2:¬l.hgt+1<r.hgt) (hh:max l.hgt r.hgt≤900) :
 Calls Tryz.prog 99 #[.pointer (some ⟨gb,0,none⟩),vl,vr] w (RetTr S ok gb g (k+1) (.nd l r) w):=by
 obtain⟨T1,b1,s1,K1,K2,K3,rfl,hm1,hs1⟩:=hl.at_.meth;obtain⟨T2,b2,s2,K4,K5,K6,rfl,hm2,hs2⟩:=hr.at_.meth;have n1:=hm1.height.nil_;have n2:=hm1.height.mth;have n3:=hm1.height.ent;have n4:=hm2.height.nil_;have n5:=hm2.height.mth;have n6:=hm2.height.ent;have HM1:=lh hm1;have HM2:=lh hm2;have hlh:=hl.h;have hrh:=hr.h;have ta:=asIn;have tb:=asLfIn;have S0:=Ext.rfl' w;have h1I:¬(l.hgt:Int)>(r.hgt:Int)+1:=om;have h2I:¬(r.hgt:Int)>(l.hgt:Int)+1:=om;have h1J:¬(r.hgt:Int)+1<(l.hgt:Int):=om;have h2J:¬(l.hgt:Int)+1<(r.hgt:Int):=om;clear hm1 hm2 h1 h2;rcases hl.as with⟨l1,l2,hl2,rfl⟩|⟨ts',hl2,rfl⟩<;>rcases hr.as with⟨r1,r2,hr2,rfl⟩|⟨ts,hr2,rfl⟩<;>clear hl2 hr2
 all_goals
  go_enter Tryz.func99,Tryz.ntmps99;exact c11
theorem cat7 {w0:World}{g:Nat}{ok:Int→Prop}{S:World→Nat→List Int→Prop}(M:Mo w0 g ok S)(w:World)(x0:Ext w0 w)(gb k:Nat)(hgb:w0.heap.size≤gb)(hb:BdAt w gb g k)(vl vr:Value)(a b r t:Sh)(c:Nat)(hl:Tr S ok w vl (.nd a b))(hr:Tr S ok w vr r)(h1:r.hgt+1<(Sh.nd a b).hgt)(hkc:k+c≤900000)(ht:a.text.length+t.text.length≤65536)(hth:max a.hgt t.hgt≤900)
 (HC:∀w',Ext w0 w'→BdAt w' gb g k→∀v,Tr S ok w' v b→Tr S ok w' vr r→Calls Tryz.prog 99 #[.pointer (some ⟨gb,0,none⟩),v,vr] w' (RetTr S ok gb g (k+c) t w')) :
 Calls Tryz.prog 99 #[.pointer (some ⟨gb,0,none⟩),vl,vr] w (RetTr S ok gb g (k+(c+(Sh.bal a t).2)) (Sh.bal a t).1 w):=by
 obtain⟨b1,va,vb,gs,rfl,hbl,ha,hbb⟩:=hl.nd;obtain⟨_,_,s1,K1,K2,K3,e1,hm1,hs1⟩:=hl.at_.meth;obtain⟨T2,b2,s2,K4,K5,K6,rfl,hm2,hs2⟩:=hr.at_.meth;cases e1
 have n1:=hm1.height.nil_;have n2:=hm1.height.mth;have n3:=hm1.height.ent;have n4:=hm2.height.nil_;have n5:=hm2.height.mth;have n6:=hm2.height.ent;have HM1:=lh hm1;have HM2:=lh hm2;have hlh:=hl.h;have hrh:=hr.h;have ta:=asIn;have tb:=asLfIn;have S0:=Ext.rfl' w;have c0:w.cell? ⟨b1,0,none⟩=some va:=hbl.cell 0;have c1:w.cell? ⟨b1,1,none⟩=some vb:=hbl.cell 1;have h1I:((Sh.nd a b).hgt:Int)>(r.hgt:Int)+1:=om;clear hm1 hm2 h1;unfold inV;go_enter Tryz.func99,Tryz.ntmps99
 go_upto_region 7 with(first|(go_at_fn K2;refine(HM1.out.height.call _ S0).mono ?_;rintro e wa ⟨rfl,rfl⟩)|(go_at_fn K5;refine(HM2.out.height.call _ S0).mono ?_;rintro e wa ⟨rfl,rfl⟩))
 have d0:=fun(w':World) (h:Kp [gb] w w')=>h.cell c0 (by simpa using Blk.neT hbl hb de);have d1:=fun(w':World) (h:Kp [gb] w w')=>h.cell c1 (by simpa using Blk.neT hbl hb de);clear HM1 HM2 n1 n2 n3 n4 n5 n6 hs1 hs2 c0 c1;refine Xr.start [gb] kr ?_;refine Xtk 0 ?_
 iterate 10(refine Xtn ?_)
 clear d0 d1;refine Xsp 11 fun w6 hE6 hK6 K hKK=>?_;go_simp;refine(HC w6 (KpP.extOf hK6.kpPs x0 hgb) (hb.ext hE6) _ (hbb.kp M hb hK6.kpPs) (hr.kp M hb hK6.kpPs)).mono ?_;rintro e w7 ⟨v1,rfl,k7⟩;refine hKK _ _ (WI_kp k7.kp si) (hK6.kpP k7.kp si) ?_;clear hKK;refine ptm ?_;refine Xsp 12 fun w8 hE8 hK8 K hKK=>?_;go_simp;refine(balance_any M w8 (KpP.extOf hK8.kpPs x0 hgb) gb (k+c) hgb (k7.bd.ext hE8) hkc _ _ _ _ (ha.kp M hb hK8.kpPs) (k7.tr.ext M hE8) ht hth).mono ?_;rintro e w9 ⟨v2,rfl,k9⟩;refine hKK _ _ (WI_kp k9.kp si) (hK8.kpP k9.kp si) ?_;clear hKK;refine ptm ?_;refine Xtk 13 ?_;refine Xdn fun wz hEz hKz=>?_
 go_wp2_with fail
 go_ret
 exact⟨v2,rfl,k9.tr.ext M hEz,by rw[←Nat.add_assoc];exact k9.bd.ext hEz,hKz.kpPs⟩
theorem c10 {P:Prop}(h:P:=by
 go_upto_region 10 with(first|(go_at_fn K2;refine(HM1.out.height.call _ S0).mono ?_;rintro e wa ⟨rfl,rfl⟩)|(go_at_fn K5;refine(HM2.out.height.call _ S0).mono ?_;rintro e wa ⟨rfl,rfl⟩))
 have d0:=fun(w':World) (h:Kp [gb] w w')=>h.cell c0 (by simpa using Blk.neT hbl hb de);have d1:=fun(w':World) (h:Kp [gb] w w')=>h.cell c1 (by simpa using Blk.neT hbl hb de);clear HM1 HM2 n1 n2 n3 n4 n5 n6 hs1 hs2 c0 c1;refine Xr.start [gb] kr ?_;refine Xtk 0 ?_
 iterate 6(refine Xtn ?_)
 refine Xtk 8 ?_
 iterate 3(refine Xtn ?_)
 clear d0 d1;refine Xsp 7 fun w6 hE6 hK6 K hKK=>?_;go_simp;refine(HC w6 (KpP.extOf hK6.kpPs x0 hgb) (hb.ext hE6) _ (hl.kp M hb hK6.kpPs) (ha.kp M hb hK6.kpPs)).mono ?_;rintro e w7 ⟨v1,rfl,k7⟩;refine hKK _ _ (WI_kp k7.kp si) (hK6.kpP k7.kp si) ?_;clear hKK;refine ptm ?_;refine Xsp 12 fun w8 hE8 hK8 K hKK=>?_;go_simp;refine(balance_any M w8 (KpP.extOf hK8.kpPs x0 hgb) gb (k+c) hgb (k7.bd.ext hE8) hkc _ _ _ _ (k7.tr.ext M hE8) (hbb.kp M hb hK8.kpPs) ht hth).mono ?_;rintro e w9 ⟨v2,rfl,k9⟩;refine hKK _ _ (WI_kp k9.kp si) (hK8.kpP k9.kp si) ?_;clear hKK;refine ptm ?_;refine Xtk 13 ?_;refine Xdn fun wz hEz hKz=>?_
 go_wp2_with fail
 go_ret
 exact⟨v2,rfl,k9.tr.ext M hEz,by rw[←Nat.add_assoc];exact k9.bd.ext hEz,hKz.kpPs⟩):P:=h
theorem cat10 {w0:World}{g:Nat}{ok:Int→Prop}{S:World→Nat→List Int→Prop}(M:Mo w0 g ok S)(w:World)(x0:Ext w0 w)(gb k:Nat)(hgb:w0.heap.size≤gb)(hb:BdAt w gb g k)(vl vr:Value)(l a b t:Sh)(c:Nat)(hl:Tr S ok w vl l)(hr:Tr S ok w vr (.nd a b))(h0:¬(Sh.nd a b).hgt+1<l.hgt)(h1:l.hgt+1<(Sh.nd a b).hgt)(hkc:k+c≤900000)(ht:t.text.length+b.text.length≤65536)(hth:max t.hgt b.hgt≤900)
 (HC:∀w',Ext w0 w'→BdAt w' gb g k→∀v,Tr S ok w' vl l→Tr S ok w' v a→Calls Tryz.prog 99 #[.pointer (some ⟨gb,0,none⟩),vl,v] w' (RetTr S ok gb g (k+c) t w')) :
 Calls Tryz.prog 99 #[.pointer (some ⟨gb,0,none⟩),vl,vr] w (RetTr S ok gb g (k+(c+(Sh.bal t b).2)) (Sh.bal t b).1 w):=by
 obtain⟨b2,va,vb,gs,rfl,hbl,ha,hbb⟩:=hr.nd;obtain⟨T1,b1,s1,K1,K2,K3,rfl,hm1,hs1⟩:=hl.at_.meth;obtain⟨_,_,s2,K4,K5,K6,e2,hm2,hs2⟩:=hr.at_.meth;cases e2
 have n1:=hm1.height.nil_;have n2:=hm1.height.mth;have n3:=hm1.height.ent;have n4:=hm2.height.nil_;have n5:=hm2.height.mth;have n6:=hm2.height.ent;have HM1:=lh hm1;have HM2:=lh hm2;have hlh:=hl.h;have hrh:=hr.h;have ta:=asIn;have tb:=asLfIn;have S0:=Ext.rfl' w;have c0:w.cell? ⟨b2,0,none⟩=some va:=hbl.cell 0;have c1:w.cell? ⟨b2,1,none⟩=some vb:=hbl.cell 1;have h1I:((Sh.nd a b).hgt:Int)>(l.hgt:Int)+1:=om;have h0I:¬(l.hgt:Int)>((Sh.nd a b).hgt:Int)+1:=om;have h0J:¬((Sh.nd a b).hgt:Int)+1<(l.hgt:Int):=om;clear hm1 hm2 h1 h0;unfold inV;rcases hl.as with⟨l1,l2,hl2,rfl⟩|⟨ts',hl2,rfl⟩<;>clear hl2
 all_goals
  go_enter Tryz.func99,Tryz.ntmps99;exact c10
theorem cat_any {w0:World}{g:Nat}{ok:Int→Prop}{S:World→Nat→List Int→Prop}(M:Mo w0 g ok S)(gb:Nat)(hgb:w0.heap.size≤gb):∀(f:Nat) (w:World) (_:Ext w0 w) (k:Nat) (_:BdAt w gb g k) (_:k≤800000) (vl vr:Value) (l r:Sh) (_:Tr S ok w vl l) (_:Tr S ok w vr r) (_:Sh.Av l) (_:Sh.Av r)
 (_:l.text.length+r.text.length≤65536) (_:max l.hgt r.hgt≤800) (_:l.hgt+r.hgt≤f),Calls Tryz.prog 99 #[.pointer (some ⟨gb,0,none⟩),vl,vr] w (RetTr S ok gb g (k+(Sh.catF f l r).2) (Sh.catF f l r).1 w)
 | 0,w,_,k,_,_,vl,vr,l,r,_,_,_,_,_,_,hf=>by have:=Sh.hgt_pos l;omega
 | f+1,w,x0,k,hb,hk,vl,vr,l,r,hl,hr,al,ar,hn,hh,hf=>by
  have pl:=Sh.hgt_pos l;have pr:=Sh.hgt_pos r;unfold Sh.catF;by_cases h1:r.hgt+1<l.hgt
  ·rw[if_pos h1]
   cases l with
   | lf ts=>simp only[Sh.hgt] at h1;omega
   | nd a b=>
    obtain⟨aa,ab,b1,b2⟩:=al;have e1:a.hgt+1≤(Sh.nd a b).hgt∧b.hgt+1≤(Sh.nd a b).hgt:=by simp only[Sh.hgt];omega
    have e2:(Sh.nd a b).text.length=a.text.length+b.text.length:=by simp[Sh.text]
    obtain⟨i1,i2,i3,i4,i5⟩:=Sh.cat_ok f ab ar om;have e3:(Sh.catF f b r).1.text.length=b.text.length+r.text.length:=by rw[i2];simp
    refine cat7 M w x0 gb k hgb hb vl vr a b r (Sh.catF f b r).1 (Sh.catF f b r).2 hl hr h1 om om om (fun w' x hb' v h h'=>?_);exact cat_any M gb hgb f w' x k hb' hk v vr b r h h' ab ar om om om
  ·rw[if_neg h1];by_cases h2:l.hgt+1<r.hgt
   ·rw[if_pos h2]
    cases r with
    | lf ts=>simp only[Sh.hgt] at h2;omega
    | nd a b=>
     obtain⟨aa,ab,b1,b2⟩:=ar;have e1:a.hgt+1≤(Sh.nd a b).hgt∧b.hgt+1≤(Sh.nd a b).hgt:=by simp only[Sh.hgt];omega
     have e2:(Sh.nd a b).text.length=a.text.length+b.text.length:=by simp[Sh.text]
     obtain⟨i1,i2,i3,i4,i5⟩:=Sh.cat_ok f al aa om;have e3:(Sh.catF f l a).1.text.length=l.text.length+a.text.length:=by rw[i2];simp
     refine cat10 M w x0 gb k hgb hb vl vr l a b (Sh.catF f l a).1 (Sh.catF f l a).2 hl hr h1 h2 om om om (fun w' x hb' v h h'=>?_);exact cat_any M gb hgb f w' x k hb' hk vl v l a h h' al aa om om om
   ·rw[if_neg h2];exact cat_pair M w x0 gb k hgb hb om vl vr l r hl hr hn h1 h2 om
end
section
open Go.RowKit
attribute [local go_sem ↓] Go.wp_at_zero Go.wp_at_succ
section
variable {w0:World} {g:Nat} {ok:Int→Prop} {S:World→Nat→List Int→Prop}
def TrO (S:World→Nat→List Int→Prop)(ok:Int→Prop)(w:World):Value→Option Sh→Prop
 | v,none=>v=.nilIface
 | v,some t=>Tr S ok w v t
theorem TrO.kp (M:Mo w0 g ok S){w w':World}{gb k:Nat}(hb:BdAt w gb g k)(kk:KpP (·=gb) w w'):∀{v:Value} {t:Option Sh},TrO S ok w v t→TrO S ok w' v t
 | _,none,h=>h
 | _,some _,h=>Tr.kp M h hb kk
theorem TrO.ext (M:Mo w0 g ok S){w w':World}(x:Ext w w'):∀{v:Value} {t:Option Sh},TrO S ok w v t→TrO S ok w' v t
 | _,none,h=>h
 | _,some _,h=>Tr.ext M h x
def RetTrO (S:World→Nat→List Int→Prop)(ok:Int→Prop)(gb g k:Nat)(t:Option Sh)(w:World)(e:Ending)(w':World):Prop:=∃v,e=.returned v∧TrO S ok w' v t∧BdAt w' gb g k∧KpP (·=gb) w w'
theorem AvO.hgt_le {t:Option Sh}(h:AvO t)(hl:(txtO t).length≤65536):hgtO t≤33:=by
 cases t with
 | none=>simp[hgtO]
 | some t=>exact Sh.Av.hgt_le h hl
end
theorem cat_nilL {w0:World}{g:Nat}{ok:Int→Prop}{S:World→Nat→List Int→Prop}(w:World)(gb k:Nat)(hb:BdAt w gb g k)(v:Value)(t:Option Sh)(h:TrO S ok w v t) :
 Calls Tryz.prog 99 #[.pointer (some ⟨gb,0,none⟩),.nilIface,v] w (RetTrO S ok gb g k t w):=by
 go_enter Tryz.func99,Tryz.ntmps99
 go_wp2
 go_ret
 exact⟨v,rfl,h,hb,KpP.refl _ _⟩
theorem cat_nilR {w0:World}{g:Nat}{ok:Int→Prop}{S:World→Nat→List Int→Prop}(w:World)(gb k:Nat)(hb:BdAt w gb g k)(v:Value)(t:Sh)(h:Tr S ok w v t) :
 Calls Tryz.prog 99 #[.pointer (some ⟨gb,0,none⟩),v,.nilIface] w (RetTrO S ok gb g k (some t) w):=by
 obtain⟨T,b,s1,K1,K2,K3,rfl,_⟩:=h.at_.meth;go_enter Tryz.func99,Tryz.ntmps99
 go_wp2
 go_ret
 exact⟨_,rfl,h,hb,KpP.refl _ _⟩
theorem catO_any {w0:World}{g:Nat}{ok:Int→Prop}{S:World→Nat→List Int→Prop}(M:Mo w0 g ok S)(gb:Nat)(hgb:w0.heap.size≤gb)(w:World)(x0:Ext w0 w)(k:Nat)(hb:BdAt w gb g k)(hk:k≤800000)(vl vr:Value)(l r:Option Sh)(hl:TrO S ok w vl l)(hr:TrO S ok w vr r)(al:AvO l)(ar:AvO r)
 (hn:(txtO l).length+(txtO r).length≤65536):Calls Tryz.prog 99 #[.pointer (some ⟨gb,0,none⟩),vl,vr] w (RetTrO S ok gb g (k+(catO l r).2) (catO l r).1 w):=by
 cases l with
 | none=>subst hl;exact cat_nilL (w0:=w0) w gb k hb vr r hr
 | some l=>cases r with
  | none=>subst hr;exact cat_nilR (w0:=w0) w gb k hb vl l hl
  | some r=>
   have e1:=Sh.Av.hgt_le al (by simp only[txtO] at hn;omega);have e2:=Sh.Av.hgt_le ar (by simp only[txtO] at hn;omega);refine(cat_any M gb hgb (l.hgt+r.hgt) w x0 k hb hk vl vr l r hl hr al ar hn om (Nat.le_refl _)).mono ?_;rintro e w' ⟨v,rfl,h⟩;exact⟨v,rfl,h.tr,h.bd,h.kp⟩
structure HdB (S:World→Nat→List Int→Prop)(ok:Int→Prop)(gb g k:Nat)(o:Option Sh)(bf:List Int)(w w':World)(v:Value)(A:Option Addr)(c:Nat):Prop where
 tr:TrO S ok w' v o
 il:IL w' A c bf
 ty:TyA 3 w' A
 bd:BdAt w' gb g k
 kp:KpP (·=gb) w w'
def RetHd (S:World→Nat→List Int→Prop)(ok:Int→Prop)(gb g k:Nat)(o:Option Sh)(bf:List Int)(w:World)(e:Ending)(w':World):Prop:=∃v A c,e=.returned (.tuple #[v,.slice A bf.length c])∧HdB S ok gb g k o bf w w' v A c
def RetTl (S:World→Nat→List Int→Prop)(ok:Int→Prop)(gb g k:Nat)(o:Option Sh)(bf:List Int)(w:World)(e:Ending)(w':World):Prop:=∃v A c,e=.returned (.tuple #[.slice A bf.length c,v])∧HdB S ok gb g k o bf w w' v A c
theorem IL.takeR {w:World}{A:Option Addr}{c k:Nat}{xs:List Int}(h:IL w A c xs)(hk:k≤xs.length):IL w A c (xs.take k):=by
 have h1:=h.le;refine⟨by rw[List.length_take];omega,h.cap,fun x hx=>h.rng x (List.mem_of_mem_take hx),fun hn=>?_⟩;obtain⟨b,o,rfl,hc⟩:=h.at_ (by rintro rfl;simp at hn);refine⟨b,o,rfl,fun i hi=>?_⟩;rw[List.getElem_take];exact hc i (by rw[List.length_take] at hi;omega)
theorem IL.kpB {w w':World}{A:Option Addr}{c gb g k:Nat}{xs:List Int}(h:IL w A c xs)(ht:TyA 3 w A)(hb:BdAt w gb g k)(kk:KpP (·=gb) w w'):IL w' A c xs:=h.kp kk (fun _ b' hb'=>by
 obtain⟨cur,e'⟩:=ht b' hb';exact(TyQ.one hb).no e' de)
theorem TyA.drop {T:Nat}{w:World}{A:Option Addr}(h:TyA T w A)(c k:Nat):TyA T w (dropI A c k):=fun b hb=>by
 unfold dropI at hb
 split at hb
 ·exact h b hb
 ·cases A with
  | none=>cases hb
  | some a=>exact h b (by
   simp only[Option.map_some,Addr.add] at hb ⊢
   split at hb<;>exact hb)
theorem head_leaf {g:Nat}{ok:Int→Prop}{S:World→Nat→List Int→Prop}(w:World)(gb k:Nat)(hb:BdAt w gb g k)(v:Value)(ts:List Int)(n:Nat)(h:Tr S ok w v (.lf ts))(hn:n≤ts.length) :
 Calls Tryz.prog 96 #[.pointer (some ⟨gb,0,none⟩),v,.int .i64 n] w (RetHd S ok gb g k none (ts.take n) w):=by
 obtain⟨b,A,c,gs,rfl,hbl,hi,ht,_⟩:=h.at_;have c0:w.cell? ⟨b,0,none⟩=some (.slice A ts.length c):=hbl.cell 0;have hl:=hi.len;have hnI:(n:Int)≤ts.length:=om;have hnc:(n:Int)≤c:=om;have ta:=asLf;have d0:=kc0 c0;unfold lfV;go_enter Tryz.func96,Tryz.ntmps96
 go_upto_region 4 with fail
 refine Xr.start [] kr ?_;refine Xtk 0 ?_
 iterate 4(refine Xtn ?_)
 refine Xr.take 5 (some 21) (v:=.slice A n c) rfl rfl dK (by rfl) (fun w' hk=>by go_simp) ?_;refine ptm ?_;refine Xtk 6 ?_;refine Xtn ?_;refine Xdn fun wz hEz hKz=>?_
 go_wp2_with fail
 go_ret2
 have X:=hKz.nil;have e:(ts.take n).length=n:=by rw[List.length_take];omega
 exact⟨.nilIface,A,c,by rw[e];rfl,rfl,(hi.ext X).takeR hn,ht.ext X,hb.ext X,KpP.of_ext X⟩
theorem tail_leaf {g:Nat}{ok:Int→Prop}{S:World→Nat→List Int→Prop}(w:World)(gb k:Nat)(hb:BdAt w gb g k)(v:Value)(ts:List Int)(n:Nat)(h:Tr S ok w v (.lf ts))(hn:n≤ts.length) :
 Calls Tryz.prog 97 #[.pointer (some ⟨gb,0,none⟩),v,.int .i64 n] w (RetTl S ok gb g k none (ts.drop n) w):=by
 obtain⟨b,A,c,gs,rfl,hbl,hi,ht,_⟩:=h.at_;have c0:w.cell? ⟨b,0,none⟩=some (.slice A ts.length c):=hbl.cell 0;have hl:=hi.len;have hnI:(n:Int)≤ts.length:=om;have hnc:(n:Int)≤c:=om;have ta:=asLf;have H:=fun(w':World) (x:Ext w w')=>(⟨rfl,(hi.ext x).dropN hn,(ht.ext x).drop c n,hb.ext x,KpP.of_ext x⟩:HdB S ok gb g k none (ts.drop n) w w' .nilIface (dropI A c n) (c-n));have e:(ts.drop n).length=ts.length-n:=List.length_drop;have HL:Hid (ts.length≤c):=lh hl.1;obtain⟨m,hm⟩:∃m,m=ts.length:=⟨_,rfl⟩
 rw[←hm] at c0 hnI e HL hl;clear hi ht hbl h hn hb hm;unfold lfV;by_cases hcc:c=n
 ·subst hcc;have e2:dropI A c c=A:=by simp[dropI]
  rw[e2] at H;obtain rfl:m=c:=om;go_enter Tryz.func97,Tryz.ntmps97
  go_wp2_with fail
  go_ret2
  have H2:=H _ (Ext.rfl' _);rw[Nat.sub_self] at H2 e;exact⟨.nilIface,A,0,by rw[e];rfl,H2⟩
 ·have hci:¬(c:Int)=n:=om;have e2:dropI A c n=A.map (fun x=>x.add n):=by unfold dropI;rw[if_neg hcc]
  go_enter Tryz.func97,Tryz.ntmps97
  go_wp2_with fail
  go_ret2
  exact⟨.nilIface,_,c-n,by rw[e,e2];rfl,H _ (Ext.rfl' _)⟩
end
section
open Go.RowKit
attribute [local go_sem ↓] Go.wp_at_zero Go.wp_at_succ
theorem head_left {w0:World}{g:Nat}{ok:Int→Prop}{S:World→Nat→List Int→Prop}(w:World)(x0:Ext w0 w)(gb k:Nat)(hb:BdAt w gb g k)(v:Value)(l r:Sh)(n:Nat)(h:Tr S ok w v (.nd l r))(hn:n<l.text.length)(o:Option Sh)(bf:List Int)(q:Nat)
 (HC:∀v',Tr S ok w v' l→Calls Tryz.prog 96 #[.pointer (some ⟨gb,0,none⟩),v',.int .i64 n] w (RetHd S ok gb g q o bf w)) :
 Calls Tryz.prog 96 #[.pointer (some ⟨gb,0,none⟩),v,.int .i64 n] w (RetHd S ok gb g q o bf w):=by
 obtain⟨b,vl,vr,gs,rfl,hbl,hl,hr⟩:=h.nd;obtain⟨T1,b1,s1,K1,K2,K3,rfl,hm1,hs1⟩:=hl.at_.meth;have c0:w.cell? ⟨b,0,none⟩=some (.iface T1 (.pointer (some ⟨b1,0,none⟩))):=hbl.cell 0;have n1:=hm1.size.nil_;have n2:=hm1.size.mth;have n3:=hm1.size.ent;have HM1:=lh hm1;have ta:=asIn;have tb:=asInLf;have S0:=Ext.rfl' w;have hnI:(n:Int)<(l.text.length:Int):=om;have H:=lh (HC _ hl);have hln:=hl.n;clear HC hm1 hl hr hs1 h hn hbl;unfold inV;go_enter Tryz.func96,Tryz.ntmps96
 go_upto_region 8 with(go_at_fn K1;refine(HM1.out.size.call _ S0).mono ?_;rintro e wa ⟨rfl,rfl⟩)
 go_wp2_with (go_at_call 96;refine H.out.mono ?_;rintro e w1 ⟨v',A,c,rfl,k1⟩)
 go_ret2
 exact⟨v',A,c,rfl,k1⟩
theorem head_right {w0:World}{g:Nat}{ok:Int→Prop}{S:World→Nat→List Int→Prop}(M:Mo w0 g ok S)(w:World)(x0:Ext w0 w)(gb k:Nat)(hgb:w0.heap.size≤gb)(hb:BdAt w gb g k)(v:Value)(l r:Sh)(n:Nat)(h:Tr S ok w v (.nd l r))(hn:l.text.length≤n)(hn2:n≤1000000)(o:Option Sh)(bf:List Int)(q:Nat)(hq:q≤800000)(al:Sh.Av l)(ao:AvO o)(ht:l.text.length+(txtO o).length≤65536)
 (HC:∀w',Ext w w'→∀v',Tr S ok w' v' r→Calls Tryz.prog 96 #[.pointer (some ⟨gb,0,none⟩),v',.int .i64 (n-l.text.length:Nat)] w' (RetHd S ok gb g q o bf w')) :
 Calls Tryz.prog 96 #[.pointer (some ⟨gb,0,none⟩),v,.int .i64 n] w (RetHd S ok gb g (q+(catO (some l) o).2) (catO (some l) o).1 bf w):=by
 obtain⟨b,vl,vr,gs,rfl,hbl,hl,hr⟩:=h.nd;obtain⟨T1,b1,s1,K1,K2,K3,rfl,hm1,hs1⟩:=hl.at_.meth;have c0:w.cell? ⟨b,0,none⟩=some (.iface T1 (.pointer (some ⟨b1,0,none⟩))):=hbl.cell 0;have c1:w.cell? ⟨b,1,none⟩=some vr:=hbl.cell 1;have n1:=hm1.size.nil_;have n2:=hm1.size.mth;have n3:=hm1.size.ent;have HM1:=lh hm1;have ta:=asIn;have tb:=asInLf;have S0:=Ext.rfl' w;have hnI:¬(n:Int)<(l.text.length:Int):=om;have hwr:(n:Int)-(l.text.length:Int)=((n-l.text.length:Nat):Int):=om;obtain⟨a,ha⟩:∃a,a=l.text.length:=⟨_,rfl⟩;obtain⟨d,hd⟩:∃d,d=n-l.text.length:=⟨_,rfl⟩;have hwd:IntKind.i64.wrap (d:Int)=(d:Int):=wj
 rw[←hd] at HC hwr
 rw[←ha] at hwr hnI HM1;have hln:=hl.n
 rw[←ha] at hln;have HC':=fun(w':World) (x:Ext w w')=>lh (HC w' x _ (hr.ext M x));have HBL:=lh hbl;clear HC hm1 hs1 h hn ha hd hbl;unfold inV;go_enter Tryz.func96,Tryz.ntmps96
 go_upto_region 9 with(go_at_fn K1;refine(HM1.out.size.call _ S0).mono ?_;rintro e wa ⟨rfl,rfl⟩)
 have d0:=fun(w':World) (h:Kp [gb] w w')=>h.cell c0 (by simpa using Blk.neT HBL.out hb de);have d1:=fun(w':World) (h:Kp [gb] w w')=>h.cell c1 (by simpa using Blk.neT HBL.out hb de);refine Xr.start [gb] kr ?_;refine Xtk 0 ?_
 iterate 9(refine Xtn ?_)
 refine Xcl 10 fun w1 hE1 hK1 K hKK=>?_;go_simp;refine(HM1.out.size.call w1 hE1).mono ?_;rintro e w2 ⟨rfl,rfl⟩;refine hKK _ _ (Ext.rfl' _) ?_;clear hKK;refine ptm ?_;refine Xr.take 11 (some 53) (v:=.int .i64 d) rfl rfl dK (by rfl) (fun w' hk=>by go_simp) ?_;refine ptm ?_;refine Xsp 12 fun w3 hE3 hK3 K hKK=>?_;go_simp;refine(HC' w3 (hE1.trans hE3)).out.mono ?_;rintro e w5 ⟨v',A,c,rfl,k5⟩;refine hKK _ _ (WI_kp k5.kp si) (hK3.kpP k5.kp si) ?_;clear hKK;refine ptm ?_;refine Xtk 13 ?_
 iterate 4(refine Xtn ?_)
 refine Xdn fun w6 hE6 hK6=>?_;have c6:=d0 w6 hK6;have KK6:=lh hK6.kpPs;have BD6:=lh (k5.bd.ext hE6);have IL6:=lh (k5.il.ext hE6);have TY6:=lh (k5.ty.ext hE6);have HP:=lh (catO_any M gb hgb w6 (KpP.extOf KK6.out x0 hgb) q BD6.out hq _ _ (some l) o (Tr.kp M hl hb KK6.out) (TrO.ext M hE6 k5.tr) al ao ht);clear hE1 hK1 hE3 hK3 hE6 hK6 k5 d0 d1 c0 c1 HC' n1 n2 n3 HM1 hl hr HBL
 go_wp2_with (go_at_call 99;refine HP.out.mono ?_;rintro e w7 ⟨v7,rfl,t7,b7,k7⟩)
 go_ret2
 exact⟨v7,A,c,rfl,t7,IL6.out.kpB TY6.out BD6.out k7,TY6.out.kpP k7 (TyQ.one BD6.out) de,b7,KK6.out.trans k7⟩
theorem tail_right {w0:World}{g:Nat}{ok:Int→Prop}{S:World→Nat→List Int→Prop}(M:Mo w0 g ok S)(w:World)(x0:Ext w0 w)(gb k:Nat)(hb:BdAt w gb g k)(v:Value)(l r:Sh)(n:Nat)(h:Tr S ok w v (.nd l r))(hn:l.text.length≤n)(hn2:n≤1000000)(o:Option Sh)(bf:List Int)(q:Nat)
 (HC:∀w',Ext w w'→∀v',Tr S ok w' v' r→Calls Tryz.prog 97 #[.pointer (some ⟨gb,0,none⟩),v',.int .i64 (n-l.text.length:Nat)] w' (RetTl S ok gb g q o bf w')) :
 Calls Tryz.prog 97 #[.pointer (some ⟨gb,0,none⟩),v,.int .i64 n] w (RetTl S ok gb g q o bf w):=by
 obtain⟨b,vl,vr,gs,rfl,hbl,hl,hr⟩:=h.nd;obtain⟨T1,b1,s1,K1,K2,K3,rfl,hm1,hs1⟩:=hl.at_.meth;have c0:w.cell? ⟨b,0,none⟩=some (.iface T1 (.pointer (some ⟨b1,0,none⟩))):=hbl.cell 0;have c1:w.cell? ⟨b,1,none⟩=some vr:=hbl.cell 1;have n1:=hm1.size.nil_;have n2:=hm1.size.mth;have n3:=hm1.size.ent;have HM1:=lh hm1;have ta:=asIn;have tb:=asInLf;have S0:=Ext.rfl' w;have hnI:(l.text.length:Int)≤(n:Int):=om;have hwr:(n:Int)-(l.text.length:Int)=((n-l.text.length:Nat):Int):=om;obtain⟨a,ha⟩:∃a,a=l.text.length:=⟨_,rfl⟩;obtain⟨d,hd⟩:∃d,d=n-l.text.length:=⟨_,rfl⟩;have hwd:IntKind.i64.wrap (d:Int)=(d:Int):=wj
 rw[←hd] at HC hwr
 rw[←ha] at hwr hnI HM1;have hln:=hl.n
 rw[←ha] at hln;have HC':=fun(w':World) (x:Ext w w')=>lh (HC w' x _ (hr.ext M x));have HBL:=lh hbl;clear HC hm1 hs1 h hn ha hd hbl;unfold inV;go_enter Tryz.func97,Tryz.ntmps97
 go_upto_region 8 with(go_at_fn K1;refine(HM1.out.size.call _ S0).mono ?_;rintro e wa ⟨rfl,rfl⟩)
 have d0:=fun(w':World) (h:Kp [gb] w w')=>h.cell c0 (by simpa using Blk.neT HBL.out hb de);have d1:=fun(w':World) (h:Kp [gb] w w')=>h.cell c1 (by simpa using Blk.neT HBL.out hb de);refine Xr.start [gb] kr ?_;refine Xtk 0 ?_
 iterate 9(refine Xtn ?_)
 refine Xcl 10 fun w1 hE1 hK1 K hKK=>?_;go_simp;refine(HM1.out.size.call w1 hE1).mono ?_;rintro e w2 ⟨rfl,rfl⟩;refine hKK _ _ (Ext.rfl' _) ?_;clear hKK;refine ptm ?_;refine Xr.take 11 (some 43) (v:=.int .i64 d) rfl rfl dK (by rfl) (fun w' hk=>by go_simp) ?_;refine ptm ?_;refine Xsp 12 fun w3 hE3 hK3 K hKK=>?_;go_simp;refine(HC' w3 (hE1.trans hE3)).out.mono ?_;rintro e w5 ⟨v',A,c,rfl,k5⟩;refine hKK _ _ (WI_kp k5.kp si) (hK3.kpP k5.kp si) ?_;clear hKK;refine ptm ?_;refine Xtk 13 ?_
 iterate 3(refine Xtn ?_)
 refine Xdn fun w6 hE6 hK6=>?_
 go_wp2_with fail
 go_ret2
 exact⟨v',A,c,rfl,TrO.ext M hE6 k5.tr,k5.il.ext hE6,k5.ty.ext hE6,k5.bd.ext hE6,hK6.kpPs⟩
theorem tail_left {w0:World}{g:Nat}{ok:Int→Prop}{S:World→Nat→List Int→Prop}(M:Mo w0 g ok S)(w:World)(x0:Ext w0 w)(gb k:Nat)(hgb:w0.heap.size≤gb)(hb:BdAt w gb g k)(v:Value)(l r:Sh)(n:Nat)(h:Tr S ok w v (.nd l r))(hn:n<l.text.length)(o:Option Sh)(bf:List Int)(q:Nat)(hq:q≤800000)(ar:Sh.Av r)(ao:AvO o)(ht:(txtO o).length+r.text.length≤65536)
 (HC:∀v',Tr S ok w v' l→Calls Tryz.prog 97 #[.pointer (some ⟨gb,0,none⟩),v',.int .i64 n] w (RetTl S ok gb g q o bf w)) :
 Calls Tryz.prog 97 #[.pointer (some ⟨gb,0,none⟩),v,.int .i64 n] w (RetTl S ok gb g (q+(catO o (some r)).2) (catO o (some r)).1 bf w):=by
 obtain⟨b,vl,vr,gs,rfl,hbl,hl,hr⟩:=h.nd;obtain⟨T1,b1,s1,K1,K2,K3,rfl,hm1,hs1⟩:=hl.at_.meth;have c0:w.cell? ⟨b,0,none⟩=some (.iface T1 (.pointer (some ⟨b1,0,none⟩))):=hbl.cell 0;have c1:w.cell? ⟨b,1,none⟩=some vr:=hbl.cell 1;have n1:=hm1.size.nil_;have n2:=hm1.size.mth;have n3:=hm1.size.ent;have HM1:=lh hm1;have ta:=asIn;have tb:=asInLf;have S0:=Ext.rfl' w;have hnI:¬(l.text.length:Int)≤(n:Int):=om;have H:=lh (HC _ hl);have HR:=lh hr;have HBL:=lh hbl;have hln:=hl.n;clear HC hm1 hl hr hs1 h hn hbl;unfold inV;go_enter Tryz.func97,Tryz.ntmps97
 go_upto_region 9 with(go_at_fn K1;refine(HM1.out.size.call _ S0).mono ?_;rintro e wa ⟨rfl,rfl⟩)
 clear n1 n2 n3 HM1
 go_upto_region 10 with(go_at_call 97;refine H.out.mono ?_;rintro e w1 ⟨v',A,c,rfl,k1⟩)
 have c6:=(KpP.kps k1.kp).cell c1 (by simpa using Blk.neT HBL.out hb de);have HP:=lh (catO_any M gb hgb w1 (KpP.extOf k1.kp x0 hgb) q k1.bd hq _ _ o (some r) k1.tr (Tr.kp M HR.out hb k1.kp) ao ar ht);have K1':=lh k1;clear k1 c0 c1 H HR HBL
 go_wp2_with (go_at_call 99;refine HP.out.mono ?_;rintro e w7 ⟨v7,rfl,t7,b7,k7⟩)
 go_ret2
 exact⟨v7,A,c,rfl,t7,K1'.out.il.kpB K1'.out.ty K1'.out.bd k7,K1'.out.ty.kpP k7 (TyQ.one K1'.out.bd) de,b7,K1'.out.kp.trans k7⟩
theorem head_any {w0:World}{g:Nat}{ok:Int→Prop}{S:World→Nat→List Int→Prop}(M:Mo w0 g ok S)(gb:Nat)(hgb:w0.heap.size≤gb):∀(t:Sh) (w:World) (_:Ext w0 w) (k:Nat) (_:BdAt w gb g k) (_:k≤600000) (v:Value) (n:Nat) (_:Tr S ok w v t) (_:Sh.Av t) (_:n≤t.text.length),
 Calls Tryz.prog 96 #[.pointer (some ⟨gb,0,none⟩),v,.int .i64 n] w (RetHd S ok gb g (k+(hdS t n).2.2) (hdS t n).1 (hdS t n).2.1 w)
 | .lf ts,w,x0,k,hb,hk,v,n,h,_,hn=>head_leaf w gb k hb v ts n h hn
 | .nd l r,w,x0,k,hb,hk,v,n,h,ha,hn=>by
  obtain⟨al,ar,_,_⟩:=ha;have hN:=h.n;have e1:(Sh.nd l r).text.length=l.text.length+r.text.length:=by simp[Sh.text]
  rw[e1] at hN hn;unfold hdS;by_cases h1:n<l.text.length
  ·rw[if_pos h1];exact head_left w x0 gb k hb v l r n h h1 _ _ _ (fun v' h'=>head_any M gb hgb l w x0 k hb hk v' n h' al om)
  ·rw[if_neg h1];obtain⟨i1,i2,i3,i4,i5⟩:=hdS_ok (n-l.text.length) ar;have hh:=Sh.Av.hgt_le ar om;have ht:(txtO (hdS r (n-l.text.length)).1).length≤r.text.length:=by
    have:=congrArg List.length i2;rw[List.length_append,List.length_take] at this;omega
   simp only
   rw[←Nat.add_assoc];exact head_right M w x0 gb k hgb hb v l r n h om om _ _ _ om al i1 om (fun w' x v' h'=>head_any M gb hgb r w' (x0.trans x) k (hb.ext x) hk v' _ h' ar om)
theorem tail_any {w0:World}{g:Nat}{ok:Int→Prop}{S:World→Nat→List Int→Prop}(M:Mo w0 g ok S)(gb:Nat)(hgb:w0.heap.size≤gb):∀(t:Sh) (w:World) (_:Ext w0 w) (k:Nat) (_:BdAt w gb g k) (_:k≤600000) (v:Value) (n:Nat) (_:Tr S ok w v t) (_:Sh.Av t) (_:n≤t.text.length),
 Calls Tryz.prog 97 #[.pointer (some ⟨gb,0,none⟩),v,.int .i64 n] w (RetTl S ok gb g (k+(tlS t n).2.2) (tlS t n).2.1 (tlS t n).1 w)
 | .lf ts,w,x0,k,hb,hk,v,n,h,_,hn=>tail_leaf w gb k hb v ts n h hn
 | .nd l r,w,x0,k,hb,hk,v,n,h,ha,hn=>by
  obtain⟨al,ar,_,_⟩:=ha;have hN:=h.n;have e1:(Sh.nd l r).text.length=l.text.length+r.text.length:=by simp[Sh.text]
  rw[e1] at hN hn;unfold tlS;by_cases h1:l.text.length≤n
  ·rw[if_pos h1];exact tail_right M w x0 gb k hb v l r n h h1 om _ _ _ (fun w' x v' h'=>tail_any M gb hgb r w' (x0.trans x) k (hb.ext x) hk v' _ h' ar om)
  ·rw[if_neg h1];obtain⟨i1,i2,i3,i4,i5⟩:=tlS_ok n al;have hh:=Sh.Av.hgt_le al om;have ht:(txtO (tlS l n).2.1).length≤l.text.length:=by
    have:=congrArg List.length i2;rw[List.length_append,List.length_drop] at this;omega
   simp only
   rw[←Nat.add_assoc];exact tail_left M w x0 gb k hgb hb v l r n h om _ _ _ om ar i1 om (fun v' h'=>tail_any M gb hgb l w x0 k hb hk v' n h' al om)
end
end Go.Proofs.YtmocoldobnimfaaGreat
