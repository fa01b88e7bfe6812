/- Texts of this proof: R5 R6 R8. -/
import Derived.Test.YtmpcoifnpflapaaGreatER21
import Derived.Test.YtmpcoifnpflapaaGreatER25
set_option linter.all false
set_option maxRecDepth 100000
set_option maxHeartbeats 16000000
namespace Go.Proofs.YtmpcoifnpflapaaGreat
section
open Go.RowKit
attribute [local go_sem ↓] Go.wp_at_zero Go.wp_at_succ
theorem c11 {P:Prop}(h:P:=by
 go_upto_region 11 with(first|(go_at_fn K2;refine(HM1.out.height.call _ S0).mono ?_;rintro e wa ⟨rfl,rfl⟩)|(go_at_fn K5;refine(HM2.out.height.call _ S0).mono ?_;rintro e wa ⟨rfl,rfl⟩))
 have HP:=lh (pair_any M w x0 gb k hgb hb om _ _ _ _ hl hr hn (by simp only[Sh.hgt] at hh ⊢;omega));clear hl hr hn hh HM1 HM2 n1 n2 n3 n4 n5 n6 hs1 hs2
 go_wp2_with (go_at_call 149;refine HP.out.mono ?_;rintro e w1 ⟨v1,rfl,k1⟩)
 go_ret
 exact⟨v1,rfl,k1⟩):P:=h
theorem cat_pair {w0:World}{g:Nat}{ok:Int->Prop}{S:World->Nat->List Int->Prop}(M:Mo w0 g ok S)(w:World)(x0:Ext w0 w)(gb k:Nat)(hgb:w0.heap.size<=gb)(hb:BdAt w gb g k)(hk:k<=900000)(vl vr:Value)(l r:Sh)(hl:Tr S ok w vl l)(hr:Tr S ok w vr r)
 (hn:l.text.length+r.text.length<=65536) (h1:¬r.hgt+1<l.hgt) (h2:¬l.hgt+1<r.hgt) (hh:max l.hgt r.hgt<=900) :
 Calls Tryz.prog 89 #[.pointer (some ⟨gb,0,none⟩),vl,vr] w (RetTr S ok gb g (k+1) (.nd l r) w):=by
 obtain⟨T1,b1,s1,K1,K2,K3,rfl,hm1,hs1⟩:=hl.at_.meth;obtain⟨T2,b2,s2,K4,K5,K6,rfl,hm2,hs2⟩:=hr.at_.meth;have n1:=hm1.height.nil_;have n2:=hm1.height.mth;have n3:=hm1.height.ent;have n4:=hm2.height.nil_;have n5:=hm2.height.mth;have n6:=hm2.height.ent;have HM1:=lh hm1;have HM2:=lh hm2;have hlh:=hl.h;have hrh:=hr.h;have ta:=asIn;have tb:=asLfIn;have S0:=Ext.rfl' w;have h1I:¬(l.hgt:Int)>(r.hgt:Int)+1:=om;have h2I:¬(r.hgt:Int)>(l.hgt:Int)+1:=om;have h1J:¬(r.hgt:Int)+1<(l.hgt:Int):=om;have h2J:¬(l.hgt:Int)+1<(r.hgt:Int):=om;clear hm1 hm2 h1 h2;rcases hl.as with⟨l1,l2,hl2,rfl⟩|⟨ts',hl2,rfl⟩<;>rcases hr.as with⟨r1,r2,hr2,rfl⟩|⟨ts,hr2,rfl⟩<;>clear hl2 hr2
 all_goals
  go_enter Tryz.func89,Tryz.ntmps89;exact c11
theorem cat7 {w0:World}{g:Nat}{ok:Int->Prop}{S:World->Nat->List Int->Prop}(M:Mo w0 g ok S)(w:World)(x0:Ext w0 w)(gb k:Nat)(hgb:w0.heap.size<=gb)(hb:BdAt w gb g k)(vl vr:Value)(a b r t:Sh)(c:Nat)(hl:Tr S ok w vl (.nd a b))(hr:Tr S ok w vr r)(h1:r.hgt+1<(Sh.nd a b).hgt)(hkc:k+c<=900000)(ht:a.text.length+t.text.length<=65536)(hth:max a.hgt t.hgt<=900)
 (HC:∀w',Ext w0 w'->BdAt w' gb g k->∀v,Tr S ok w' v b->Tr S ok w' vr r->Calls Tryz.prog 89 #[.pointer (some ⟨gb,0,none⟩),v,vr] w' (RetTr S ok gb g (k+c) t w')) :
 Calls Tryz.prog 89 #[.pointer (some ⟨gb,0,none⟩),vl,vr] w (RetTr S ok gb g (k+(c+(Sh.bal a t).2)) (Sh.bal a t).1 w):=by
 obtain⟨b1,va,vb,gs,rfl,hbl,ha,hbb⟩:=hl.nd;obtain⟨_,_,s1,K1,K2,K3,e1,hm1,hs1⟩:=hl.at_.meth;obtain⟨T2,b2,s2,K4,K5,K6,rfl,hm2,hs2⟩:=hr.at_.meth;cases e1
 have n1:=hm1.height.nil_;have n2:=hm1.height.mth;have n3:=hm1.height.ent;have n4:=hm2.height.nil_;have n5:=hm2.height.mth;have n6:=hm2.height.ent;have HM1:=lh hm1;have HM2:=lh hm2;have hlh:=hl.h;have hrh:=hr.h;have ta:=asIn;have tb:=asLfIn;have S0:=Ext.rfl' w;have c0:w.cell? ⟨b1,0,none⟩=some va:=hbl.cell 0;have c1:w.cell? ⟨b1,1,none⟩=some vb:=hbl.cell 1;have h1I:((Sh.nd a b).hgt:Int)>(r.hgt:Int)+1:=om;clear hm1 hm2 h1;unfold inV;go_enter Tryz.func89,Tryz.ntmps89
 go_upto_region 7 with(first|(go_at_fn K2;refine(HM1.out.height.call _ S0).mono ?_;rintro e wa ⟨rfl,rfl⟩)|(go_at_fn K5;refine(HM2.out.height.call _ S0).mono ?_;rintro e wa ⟨rfl,rfl⟩))
 have d0:=fun(w':World) (h:Kp [gb] w w')=>h.cell c0 (by simpa using Blk.neT hbl hb de);have d1:=fun(w':World) (h:Kp [gb] w w')=>h.cell c1 (by simpa using Blk.neT hbl hb de);clear HM1 HM2 n1 n2 n3 n4 n5 n6 hs1 hs2 c0 c1;refine Xr.start [gb] kr ?_;refine Xtk 0 ?_
 iterate 10(refine Xtn ?_)
 clear d0 d1;refine Xsp 11 fun w6 hE6 hK6 K hKK=>?_;go_simp;refine(HC w6 (KpP.extOf hK6.kpPs x0 hgb) (hb.ext hE6) _ (hbb.kp M hb hK6.kpPs) (hr.kp M hb hK6.kpPs)).mono ?_;rintro e w7 ⟨v1,rfl,k7⟩;refine hKK _ _ (WI_kp k7.kp si) (hK6.kpP k7.kp si) ?_;clear hKK;refine ptm ?_;refine Xsp 12 fun w8 hE8 hK8 K hKK=>?_;go_simp;refine(balance_any M w8 (KpP.extOf hK8.kpPs x0 hgb) gb (k+c) hgb (k7.bd.ext hE8) hkc _ _ _ _ (ha.kp M hb hK8.kpPs) (k7.tr.ext M hE8) ht hth).mono ?_;rintro e w9 ⟨v2,rfl,k9⟩;refine hKK _ _ (WI_kp k9.kp si) (hK8.kpP k9.kp si) ?_;clear hKK;refine ptm ?_;refine Xtk 13 ?_;refine Xdn fun wz hEz hKz=>?_
 go_wp2_with fail
 go_ret
 exact⟨v2,rfl,k9.tr.ext M hEz,by rw[<-Nat.add_assoc];exact k9.bd.ext hEz,hKz.kpPs⟩
theorem c10 {P:Prop}(h:P:=by
 go_upto_region 10 with(first|(go_at_fn K2;refine(HM1.out.height.call _ S0).mono ?_;rintro e wa ⟨rfl,rfl⟩)|(go_at_fn K5;refine(HM2.out.height.call _ S0).mono ?_;rintro e wa ⟨rfl,rfl⟩))
 have d0:=fun(w':World) (h:Kp [gb] w w')=>h.cell c0 (by simpa using Blk.neT hbl hb de);have d1:=fun(w':World) (h:Kp [gb] w w')=>h.cell c1 (by simpa using Blk.neT hbl hb de);clear HM1 HM2 n1 n2 n3 n4 n5 n6 hs1 hs2 c0 c1;refine Xr.start [gb] kr ?_;refine Xtk 0 ?_
 iterate 6(refine Xtn ?_)
 refine Xtk 8 ?_
 iterate 3(refine Xtn ?_)
 clear d0 d1;refine Xsp 7 fun w6 hE6 hK6 K hKK=>?_;go_simp;refine(HC w6 (KpP.extOf hK6.kpPs x0 hgb) (hb.ext hE6) _ (hl.kp M hb hK6.kpPs) (ha.kp M hb hK6.kpPs)).mono ?_;rintro e w7 ⟨v1,rfl,k7⟩;refine hKK _ _ (WI_kp k7.kp si) (hK6.kpP k7.kp si) ?_;clear hKK;refine ptm ?_;refine Xsp 12 fun w8 hE8 hK8 K hKK=>?_;go_simp;refine(balance_any M w8 (KpP.extOf hK8.kpPs x0 hgb) gb (k+c) hgb (k7.bd.ext hE8) hkc _ _ _ _ (k7.tr.ext M hE8) (hbb.kp M hb hK8.kpPs) ht hth).mono ?_;rintro e w9 ⟨v2,rfl,k9⟩;refine hKK _ _ (WI_kp k9.kp si) (hK8.kpP k9.kp si) ?_;clear hKK;refine ptm ?_;refine Xtk 13 ?_;refine Xdn fun wz hEz hKz=>?_
 go_wp2_with fail
 go_ret
 exact⟨v2,rfl,k9.tr.ext M hEz,by rw[<-Nat.add_assoc];exact k9.bd.ext hEz,hKz.kpPs⟩):P:=h
theorem cat10 {w0:World}{g:Nat}{ok:Int->Prop}{S:World->Nat->List Int->Prop}(M:Mo w0 g ok S)(w:World)(x0:Ext w0 w)(gb k:Nat)(hgb:w0.heap.size<=gb)(hb:BdAt w gb g k)(vl vr:Value)(l a b t:Sh)(c:Nat)(hl:Tr S ok w vl l)(hr:Tr S ok w vr (.nd a b))(h0:¬(Sh.nd a b).hgt+1<l.hgt)(h1:l.hgt+1<(Sh.nd a b).hgt)(hkc:k+c<=900000)(ht:t.text.length+b.text.length<=65536)(hth:max t.hgt b.hgt<=900)
 (HC:∀w',Ext w0 w'->BdAt w' gb g k->∀v,Tr S ok w' vl l->Tr S ok w' v a->Calls Tryz.prog 89 #[.pointer (some ⟨gb,0,none⟩),vl,v] w' (RetTr S ok gb g (k+c) t w')) :
 Calls Tryz.prog 89 #[.pointer (some ⟨gb,0,none⟩),vl,vr] w (RetTr S ok gb g (k+(c+(Sh.bal t b).2)) (Sh.bal t b).1 w):=by
 obtain⟨b2,va,vb,gs,rfl,hbl,ha,hbb⟩:=hr.nd;obtain⟨T1,b1,s1,K1,K2,K3,rfl,hm1,hs1⟩:=hl.at_.meth;obtain⟨_,_,s2,K4,K5,K6,e2,hm2,hs2⟩:=hr.at_.meth;cases e2
 have n1:=hm1.height.nil_;have n2:=hm1.height.mth;have n3:=hm1.height.ent;have n4:=hm2.height.nil_;have n5:=hm2.height.mth;have n6:=hm2.height.ent;have HM1:=lh hm1;have HM2:=lh hm2;have hlh:=hl.h;have hrh:=hr.h;have ta:=asIn;have tb:=asLfIn;have S0:=Ext.rfl' w;have c0:w.cell? ⟨b2,0,none⟩=some va:=hbl.cell 0;have c1:w.cell? ⟨b2,1,none⟩=some vb:=hbl.cell 1;have h1I:((Sh.nd a b).hgt:Int)>(l.hgt:Int)+1:=om;have h0I:¬(l.hgt:Int)>((Sh.nd a b).hgt:Int)+1:=om;have h0J:¬((Sh.nd a b).hgt:Int)+1<(l.hgt:Int):=om;clear hm1 hm2 h1 h0;unfold inV;rcases hl.as with⟨l1,l2,hl2,rfl⟩|⟨ts',hl2,rfl⟩<;>clear hl2
 all_goals
  go_enter Tryz.func89,Tryz.ntmps89;exact c10
theorem cat_any {w0:World}{g:Nat}{ok:Int->Prop}{S:World->Nat->List Int->Prop}(M:Mo w0 g ok S)(gb:Nat)(hgb:w0.heap.size<=gb):∀(f:Nat) (w:World) (_:Ext w0 w) (k:Nat) (_:BdAt w gb g k) (_:k<=800000) (vl vr:Value) (l r:Sh) (_:Tr S ok w vl l) (_:Tr S ok w vr r) (_:Sh.Av l) (_:Sh.Av r)
 (_:l.text.length+r.text.length<=65536) (_:max l.hgt r.hgt<=800) (_:l.hgt+r.hgt<=f),Calls Tryz.prog 89 #[.pointer (some ⟨gb,0,none⟩),vl,vr] w (RetTr S ok gb g (k+(Sh.catF f l r).2) (Sh.catF f l r).1 w)
 | 0,w,_,k,_,_,vl,vr,l,r,_,_,_,_,_,_,hf=>by have:=Sh.hgt_pos l;omega
 | f+1,w,x0,k,hb,hk,vl,vr,l,r,hl,hr,al,ar,hn,hh,hf=>by
  have pl:=Sh.hgt_pos l;have pr:=Sh.hgt_pos r;unfold Sh.catF;by_cases h1:r.hgt+1<l.hgt
  ·rw[if_pos h1]
   cases l with
   | lf ts=>simp only[Sh.hgt] at h1;omega
   | nd a b=>
    obtain⟨aa,ab,b1,b2⟩:=al;have e1:a.hgt+1<=(Sh.nd a b).hgt/\b.hgt+1<=(Sh.nd a b).hgt:=by simp only[Sh.hgt];omega
    have e2:(Sh.nd a b).text.length=a.text.length+b.text.length:=by simp[Sh.text]
    obtain⟨i1,i2,i3,i4,i5⟩:=Sh.cat_ok f ab ar om;have e3:(Sh.catF f b r).1.text.length=b.text.length+r.text.length:=by rw[i2];simp
    refine cat7 M w x0 gb k hgb hb vl vr a b r (Sh.catF f b r).1 (Sh.catF f b r).2 hl hr h1 om om om (fun w' x hb' v h h'=>?_);exact cat_any M gb hgb f w' x k hb' hk v vr b r h h' ab ar om om om
  ·rw[if_neg h1];by_cases h2:l.hgt+1<r.hgt
   ·rw[if_pos h2]
    cases r with
    | lf ts=>simp only[Sh.hgt] at h2;omega
    | nd a b=>
     obtain⟨aa,ab,b1,b2⟩:=ar;have e1:a.hgt+1<=(Sh.nd a b).hgt/\b.hgt+1<=(Sh.nd a b).hgt:=by simp only[Sh.hgt];omega
     have e2:(Sh.nd a b).text.length=a.text.length+b.text.length:=by simp[Sh.text]
     obtain⟨i1,i2,i3,i4,i5⟩:=Sh.cat_ok f al aa om;have e3:(Sh.catF f l a).1.text.length=l.text.length+a.text.length:=by rw[i2];simp
     refine cat10 M w x0 gb k hgb hb vl vr l a b (Sh.catF f l a).1 (Sh.catF f l a).2 hl hr h1 h2 om om om (fun w' x hb' v h h'=>?_);exact cat_any M gb hgb f w' x k hb' hk vl v l a h h' al aa om om om
   ·rw[if_neg h2];exact cat_pair M w x0 gb k hgb hb om vl vr l r hl hr hn h1 h2 om
section
variable {w0:World} {g:Nat} {ok:Int->Prop} {S:World->Nat->List Int->Prop}
def TrO (S:World->Nat->List Int->Prop)(ok:Int->Prop)(w:World):Value->Option Sh->Prop
 | v,none=>v=.nilIface
 | v,some t=>Tr S ok w v t
theorem TrO.kp (M:Mo w0 g ok S){w w':World}{gb k:Nat}(hb:BdAt w gb g k)(kk:KpP (·=gb) w w'):∀{v:Value} {t:Option Sh},TrO S ok w v t->TrO S ok w' v t
 | _,none,h=>h
 | _,some _,h=>Tr.kp M h hb kk
theorem TrO.ext (M:Mo w0 g ok S){w w':World}(x:Ext w w'):∀{v:Value} {t:Option Sh},TrO S ok w v t->TrO S ok w' v t
 | _,none,h=>h
 | _,some _,h=>Tr.ext M h x
def RetTrO (S:World->Nat->List Int->Prop)(ok:Int->Prop)(gb g k:Nat)(t:Option Sh)(w:World)(e:Ending)(w':World):Prop:=∃v,e=.returned v/\TrO S ok w' v t/\BdAt w' gb g k/\KpP (·=gb) w w'
theorem AvO.hgt_le {t:Option Sh}(h:AvO t)(hl:(txtO t).length<=65536):hgtO t<=33:=by
 cases t with
 | none=>simp[hgtO]
 | some t=>exact Sh.Av.hgt_le h hl
end
theorem cat_nilL {w0:World}{g:Nat}{ok:Int->Prop}{S:World->Nat->List Int->Prop}(w:World)(gb k:Nat)(hb:BdAt w gb g k)(v:Value)(t:Option Sh)(h:TrO S ok w v t) :
 Calls Tryz.prog 89 #[.pointer (some ⟨gb,0,none⟩),.nilIface,v] w (RetTrO S ok gb g k t w):=by
 go_enter Tryz.func89,Tryz.ntmps89
 go_wp2
 go_ret
 exact⟨v,rfl,h,hb,KpP.refl _ _⟩
theorem cat_nilR {w0:World}{g:Nat}{ok:Int->Prop}{S:World->Nat->List Int->Prop}(w:World)(gb k:Nat)(hb:BdAt w gb g k)(v:Value)(t:Sh)(h:Tr S ok w v t) :
 Calls Tryz.prog 89 #[.pointer (some ⟨gb,0,none⟩),v,.nilIface] w (RetTrO S ok gb g k (some t) w):=by
 obtain⟨T,b,s1,K1,K2,K3,rfl,_⟩:=h.at_.meth;go_enter Tryz.func89,Tryz.ntmps89
 go_wp2
 go_ret
 exact⟨_,rfl,h,hb,KpP.refl _ _⟩
theorem catO_any {w0:World}{g:Nat}{ok:Int->Prop}{S:World->Nat->List Int->Prop}(M:Mo w0 g ok S)(gb:Nat)(hgb:w0.heap.size<=gb)(w:World)(x0:Ext w0 w)(k:Nat)(hb:BdAt w gb g k)(hk:k<=800000)(vl vr:Value)(l r:Option Sh)(hl:TrO S ok w vl l)(hr:TrO S ok w vr r)(al:AvO l)(ar:AvO r)
 (hn:(txtO l).length+(txtO r).length<=65536):Calls Tryz.prog 89 #[.pointer (some ⟨gb,0,none⟩),vl,vr] w (RetTrO S ok gb g (k+(catO l r).2) (catO l r).1 w):=by
 cases l with
 | none=>subst hl;exact cat_nilL (w0:=w0) w gb k hb vr r hr
 | some l=>cases r with
  | none=>subst hr;exact cat_nilR (w0:=w0) w gb k hb vl l hl
  | some r=>
   have e1:=Sh.Av.hgt_le al (by simp only[txtO] at hn;omega);have e2:=Sh.Av.hgt_le ar (by simp only[txtO] at hn;omega);refine(cat_any M gb hgb (l.hgt+r.hgt) w x0 k hb hk vl vr l r hl hr al ar hn om (Nat.le_refl _)).mono ?_;rintro e w' ⟨v,rfl,h⟩;exact⟨v,rfl,h.tr,h.bd,h.kp⟩
structure HdB (S:World->Nat->List Int->Prop)(ok:Int->Prop)(gb g k:Nat)(o:Option Sh)(bf:List Int)(w w':World)(v:Value)(A:Option Addr)(c:Nat):Prop where
 tr:TrO S ok w' v o
 il:IL w' A c bf
 ty:TyA 3 w' A
 bd:BdAt w' gb g k
 kp:KpP (·=gb) w w'
def RetHd (S:World->Nat->List Int->Prop)(ok:Int->Prop)(gb g k:Nat)(o:Option Sh)(bf:List Int)(w:World)(e:Ending)(w':World):Prop:=∃v A c,e=.returned (.tuple #[v,.slice A bf.length c])/\HdB S ok gb g k o bf w w' v A c
def RetTl (S:World->Nat->List Int->Prop)(ok:Int->Prop)(gb g k:Nat)(o:Option Sh)(bf:List Int)(w:World)(e:Ending)(w':World):Prop:=∃v A c,e=.returned (.tuple #[.slice A bf.length c,v])/\HdB S ok gb g k o bf w w' v A c
theorem IL.takeR {w:World}{A:Option Addr}{c k:Nat}{xs:List Int}(h:IL w A c xs)(hk:k<=xs.length):IL w A c (xs.take k):=by
 have h1:=h.le;refine⟨by rw[List.length_take];omega,h.cap,fun x hx=>h.rng x (List.mem_of_mem_take hx),fun hn=>?_⟩;obtain⟨b,o,rfl,hc⟩:=h.at_ (by rintro rfl;simp at hn);refine⟨b,o,rfl,fun i hi=>?_⟩;rw[List.getElem_take];exact hc i (by rw[List.length_take] at hi;omega)
theorem IL.kpB {w w':World}{A:Option Addr}{c gb g k:Nat}{xs:List Int}(h:IL w A c xs)(ht:TyA 3 w A)(hb:BdAt w gb g k)(kk:KpP (·=gb) w w'):IL w' A c xs:=h.kp kk (fun _ b' hb'=>by
 obtain⟨cur,e'⟩:=ht b' hb';exact(TyQ.one hb).no e' de)
theorem TyA.drop {T:Nat}{w:World}{A:Option Addr}(h:TyA T w A)(c k:Nat):TyA T w (dropI A c k):=fun b hb=>by
 unfold dropI at hb
 split at hb
 ·exact h b hb
 ·cases A with
  | none=>cases hb
  | some a=>exact h b (by
   simp only[Option.map_some,Addr.add] at hb ⊢
   split at hb<;>exact hb)
theorem head_leaf {g:Nat}{ok:Int->Prop}{S:World->Nat->List Int->Prop}(w:World)(gb k:Nat)(hb:BdAt w gb g k)(v:Value)(ts:List Int)(n:Nat)(h:Tr S ok w v (.lf ts))(hn:n<=ts.length) :
 Calls Tryz.prog 86 #[.pointer (some ⟨gb,0,none⟩),v,.int .i64 n] w (RetHd S ok gb g k none (ts.take n) w):=by
 obtain⟨b,A,c,gs,rfl,hbl,hi,ht,_⟩:=h.at_;have c0:w.cell? ⟨b,0,none⟩=some (.slice A ts.length c):=hbl.cell 0;have hl:=hi.len;have hnI:(n:Int)<=ts.length:=om;have hnc:(n:Int)<=c:=om;have ta:=asLf;have d0:=kc0 c0;unfold lfV;go_enter Tryz.func86,Tryz.ntmps86
 go_upto_region 4 with fail
 refine Xr.start [] kr ?_;refine Xtk 0 ?_
 iterate 4(refine Xtn ?_)
 refine Xr.take 5 (some 21) (v:=.slice A n c) rfl rfl dK (by rfl) (fun w' hk=>by go_simp) ?_;refine ptm ?_;refine Xtk 6 ?_;refine Xtn ?_;refine Xdn fun wz hEz hKz=>?_
 go_wp2_with fail
 go_ret2
 have X:=hKz.nil;have e:(ts.take n).length=n:=by rw[List.length_take];omega
 exact⟨.nilIface,A,c,by rw[e];rfl,rfl,(hi.ext X).takeR hn,ht.ext X,hb.ext X,KpP.of_ext X⟩
theorem tail_leaf {g:Nat}{ok:Int->Prop}{S:World->Nat->List Int->Prop}(w:World)(gb k:Nat)(hb:BdAt w gb g k)(v:Value)(ts:List Int)(n:Nat)(h:Tr S ok w v (.lf ts))(hn:n<=ts.length) :
 Calls Tryz.prog 87 #[.pointer (some ⟨gb,0,none⟩),v,.int .i64 n] w (RetTl S ok gb g k none (ts.drop n) w):=by
 obtain⟨b,A,c,gs,rfl,hbl,hi,ht,_⟩:=h.at_;have c0:w.cell? ⟨b,0,none⟩=some (.slice A ts.length c):=hbl.cell 0;have hl:=hi.len;have hnI:(n:Int)<=ts.length:=om;have hnc:(n:Int)<=c:=om;have ta:=asLf;have H:=fun(w':World) (x:Ext w w')=>(⟨rfl,(hi.ext x).dropN hn,(ht.ext x).drop c n,hb.ext x,KpP.of_ext x⟩:HdB S ok gb g k none (ts.drop n) w w' .nilIface (dropI A c n) (c-n));have e:(ts.drop n).length=ts.length-n:=List.length_drop;have HL:Hid (ts.length<=c):=lh hl.1;obtain⟨m,hm⟩:∃m,m=ts.length:=⟨_,rfl⟩
 rw[<-hm] at c0 hnI e HL hl;clear hi ht hbl h hn hb hm;unfold lfV;by_cases hcc:c=n
 ·subst hcc;have e2:dropI A c c=A:=by simp[dropI]
  rw[e2] at H;obtain rfl:m=c:=om;go_enter Tryz.func87,Tryz.ntmps87
  go_wp2_with fail
  go_ret2
  have H2:=H _ (Ext.rfl' _);rw[Nat.sub_self] at H2 e;exact⟨.nilIface,A,0,by rw[e];rfl,H2⟩
 ·have hci:¬(c:Int)=n:=om;have e2:dropI A c n=A.map (fun x=>x.add n):=by unfold dropI;rw[if_neg hcc]
  go_enter Tryz.func87,Tryz.ntmps87
  go_wp2_with fail
  go_ret2
  exact⟨.nilIface,_,c-n,by rw[e,e2];rfl,H _ (Ext.rfl' _)⟩
def RetILT (xs:List Int)(w:World)(e:Ending)(w':World):Prop:=∃A c,e=.returned (.slice A xs.length c)/\IL w' A c xs/\Ext w w'/\Fr w A/\TyA 3 w' A
theorem clone_ty (A:Option Addr)(c:Nat)(l:List Int)(w:World)(hl:IL w A c l)(hb:l.length<=1099511627776) :
 Calls Tryz.prog 81 #[.slice A l.length c] w (RetILT l w):=
 (clone_own A c l w hl hb).mono (fun _ _ ⟨A',c',h1,ho,hr,x⟩=>⟨A',c',h1,IL.of_own ho hr,x,OwnS.row ho,TyA.own ho⟩)
def NeA (gb:Nat)(A:Option Addr):Prop:=∀b,A.map (·.block)=some b->b≠gb
theorem NeA.drop {gb:Nat}{A:Option Addr}(h:NeA gb A)(c k:Nat):NeA gb (dropI A c k):=fun b hb=>by
 unfold dropI at hb
 split at hb
 ·exact h b hb
 ·cases A with
  | none=>cases hb
  | some a=>exact h b (by
   simp only[Option.map_some,Addr.add] at hb ⊢
   split at hb<;>exact hb)
theorem IL.kpN {w w':World}{A:Option Addr}{c gb:Nat}{xs:List Int}(h:IL w A c xs)(hn:NeA gb A)(kk:KpP (·=gb) w w'):IL w' A c xs:=h.kp kk (fun _ b hb=>hn b hb)
theorem build_leaf {w0:World}{g:Nat}{ok:Int->Prop}{S:World->Nat->List Int->Prop}(M:Mo w0 g ok S)(w:World)(x0:Ext w0 w)(gb k:Nat)(hb:BdAt w gb g k)(hk:k<=900000)(A:Option Addr)(c:Nat)(ts:List Int)(hi:IL w A c ts)(hne:NeA gb A)
 (okt:∀x∈ts,ok x) (htl:ts.length<=65536) :
 Calls Tryz.prog 144 #[.pointer (some ⟨gb,0,none⟩),.slice A ts.length c,.int .i64 1] w (RetTr S ok gb g (k+1) (.lf ts) w):=by
 have c0:w.cell? ⟨gb,0,none⟩=some (.pointer (some ⟨g,0,none⟩)):=hb.cell 0;have HOF:=lh (M.of w x0 A c ts hi okt htl);have HI:=lh hi;have hcap:=hi.len;clear hi;go_enter Tryz.func144,Tryz.ntmps144
 go_upto_region 3 with(go_at_call 21;refine HOF.out.mono ?_;rintro e w1 ⟨gs,rfl,hs,x1⟩)
 have hb1:=lh (hb.ext x1)
 go_upto_region 4 with(go_at_call 190;refine(note_any w1 gb g k hb1.out).mono ?_;rintro e w2 ⟨rfl,hb2,hk2⟩)
 have HS2:=lh (M.kp hs hk2 (TyQ.one hb1.out));have HK2:=lh (KpP.extThen x1 hk2);clear hs hk2 hb1 x1 HOF c0;obtain⟨b0,b1',b2',z0,z1,z2,_⟩:=Blk.c3 hb2;have HB3:Hid (BdAt (w2.setCell ⟨gb,1,none⟩ (.int .i64 ((k:Int)+1))) gb g (k+1)):=lh (by have h:=Blk.set hb2 1 (.int .i64 ((k:Int)+1));exact h);have HK3':=(KpP.refl (·=gb) w2).set (x:=⟨gb,1,none⟩) (.inl rfl) (.int .i64 ((k:Int)+1));have HS3:=lh (M.kp HS2.out HK3' (TyQ.one hb2));have HK3:=lh (HK2.out.trans HK3');have HI3:=lh (HI.out.kpN hne HK3.out);clear HK3' HS2 HK2 hb2 HI hb
 go_upto_region 5 with fail
 generalize w2.setCell ⟨gb,1,none⟩ (.int .i64 ((k:Int)+1))=w3 at *;clear b0 b1' b2' z0 z1 z2
 go_wp2_with (go_at_call 81;refine(clone_ty A c ts w3 HI3.out om).mono ?_;rintro e w4 ⟨A',c',rfl,hi4,x4,_,ht4⟩)
 go_ret
 have XN:=Ext.alloc w4 (.cells #[.slice A' ts.length c',.pointer (some ⟨gs,0,none⟩)] 258);exact⟨lfV w4.heap.size,rfl,⟨⟨w4.heap.size,A',c',gs,rfl,Blk.new _ _ _,hi4.ext XN,ht4.ext XN,M.ext HS3.out (x4.trans XN)⟩,okt,by simp[Sh.hgt],htl⟩,HB3.out.ext (x4.trans XN),HK3.out.thenExt (x4.trans XN)⟩
theorem cut_bd {n L x c:Nat}(h3:L<=n)(h4:n<=32*L)(hx:x=L / 2)(hL2:2<=L)(hc:c=n*x / L):x<=c/\c<=32*x/\c+(L-x)<=n/\n-c<=32*(L-x):=by
 obtain⟨y,hy⟩:∃y,y=L-x:=⟨_,rfl⟩
 rw[<-hy];have hL:x+y=L:=om;have d1:c*L<=n*x:=by rw[hc];exact Nat.div_mul_le_self _ _
 have d2:n*x<(c+1)*L:=by rw[hc];exact Nat.lt_mul_of_div_lt (Nat.lt_succ_self _) om
 have b1:x<=c:=by
  rcases Nat.lt_or_ge c x with h|h
  ·exfalso
   have k1:(c+1)*L<=x*L:=Nat.mul_le_mul_right _ om;have k2:L*x<=n*x:=Nat.mul_le_mul_right _ h3;rw[Nat.mul_comm L x] at k2;omega
  ·exact h
 have b2:c<=32*x:=by
  rcases Nat.lt_or_ge (32*x) c with h|h
  ·exfalso
   have k1:(32*x+1)*L<=c*L:=Nat.mul_le_mul_right _ om;have k2:n*x<=32*L*x:=Nat.mul_le_mul_right _ h4;have e:(32*x+1)*L=32*L*x+L:=by rw[Nat.add_mul,Nat.one_mul,Nat.mul_assoc,Nat.mul_comm x L,<-Nat.mul_assoc]
   omega
  ·exact h
 have b3:c+y<=n:=by
  rcases Nat.lt_or_ge n (c+y) with h|h
  ·exfalso
   have k1:n*L=n*x+n*y:=by rw[<-hL,Nat.mul_add]
   have k2:L*y<=n*y:=Nat.mul_le_mul_right _ h3;have k3:(n+1)*L<=(c+y)*L:=Nat.mul_le_mul_right _ om;have k4:(c+y)*L=c*L+L*y:=by rw[Nat.add_mul,Nat.mul_comm y L]
   have k5:(n+1)*L=n*L+L:=by rw[Nat.add_mul,Nat.one_mul]
   omega
  ·exact h
 have b4:n-c<=32*y:=by
  rcases Nat.lt_or_ge (32*y) (n-c) with h|h
  ·exfalso
   have k1:n*L=n*x+n*y:=by rw[<-hL,Nat.mul_add]
   have k2:n*y<=32*L*y:=Nat.mul_le_mul_right _ h4;have k3:(32*y+1+c)*L<=n*L:=Nat.mul_le_mul_right _ om;have k4:(32*y+1+c)*L=32*L*y+(c+1)*L:=by
    rw[Nat.add_assoc,Nat.add_comm 1 c,Nat.add_mul,Nat.mul_assoc,Nat.mul_comm y L,<-Nat.mul_assoc]
   omega
  ·exact h
 exact⟨b1,b2,b3,b4⟩
theorem cut_law {m half L cut:Nat}(hcut:cut=m*half / L)(hmul:m*half<=65536*65536):wrap64 ((wrap64 ((m:Int)*(half:Int))).tdiv (L:Int))=(cut:Int):=by
 have e0:(m:Int)*(half:Int)=((m*half:Nat):Int):=by simp
 rw[e0,hcut];clear hcut e0;generalize m*half=X at *;have e1:wrap64 ((X:Nat):Int)=(X:Int):=by unfold wrap64;omega
 rw[e1];have e2:(X:Int).tdiv (L:Int)=((X / L:Nat):Int):=by rw[Int.tdiv_eq_ediv_of_nonneg om];simp
 rw[e2];have e3:X / L<=X:=Nat.div_le_self _ _;generalize X / L=Y at *;unfold wrap64;omega
theorem build_node {w0:World}{g:Nat}{ok:Int->Prop}{S:World->Nat->List Int->Prop}(M:Mo w0 g ok S)(w:World)(x0:Ext w0 w)(gb k:Nat)(hgb:w0.heap.size<=gb)(hb:BdAt w gb g k)(A:Option Addr)(c:Nat)(ts:List Int)(hi:IL w A c ts)(hne:NeA gb A)(L half cut:Nat)(hL:2<=L)(hL2:L<=65536)
 (hhalf:half=L / 2) (hcut:cut=ts.length*half / L) (hct:cut<=ts.length) (htl:ts.length<=65536) (l r:Sh) (q p:Nat) (hp:p<=900000) (hn:l.text.length+r.text.length<=65536) (hh:(Sh.nd l r).hgt<=1000)
 (H1:∀w',Ext w w'->IL w' A c (ts.take cut)->Calls Tryz.prog 144 #[.pointer (some ⟨gb,0,none⟩),.slice A cut c,.int .i64 half] w' (RetTr S ok gb g q l w'))
 (H2:∀w',Ext w0 w'->BdAt w' gb g q->IL w' (dropI A c cut) (c-cut) (ts.drop cut)->Calls Tryz.prog 144 #[.pointer (some ⟨gb,0,none⟩),.slice (dropI A c cut) (ts.length-cut) (c-cut),.int .i64 (L-half:Nat)] w' (RetTr S ok gb g p r w')) :
 Calls Tryz.prog 144 #[.pointer (some ⟨gb,0,none⟩),.slice A ts.length c,.int .i64 L] w (RetTr S ok gb g (p+1) (.nd l r) w):=by
 have hcap:=hi.len;have hdv:IntKind.i64.wrap ((L:Int) / 2)=(half:Int):=wj;have HI:=lh hi;have hL0:¬(L:Int)=1:=om;obtain⟨m,hm⟩:∃m,m=ts.length:=⟨_,rfl⟩
 rw[<-hm] at hcut hct htl hcap H2 ⊢;have hmul:m*half<=65536*65536:=Nat.mul_le_mul htl om;have hq:=lh (cut_law hcut hmul);have HMT:=lh hm;clear hi hm hcut hmul;have HH:=lh hhalf;clear hhalf;go_enter Tryz.func144,Tryz.ntmps144
 go_upto_region 8 with fail
 rw[hq.out];clear hq;have hcI:(cut:Int)<=m:=om;have hcc:(cut:Int)<=c:=om;have hsub:(L:Int)-(half:Int)=((L-half:Nat):Int):=by have:=HH.out;omega
 obtain⟨d,hd⟩:∃d,d=L-half:=⟨_,rfl⟩;have hwd:IntKind.i64.wrap (d:Int)=(d:Int):=wj
 rw[<-hd] at H2 hsub;clear hd;refine Xr.start [gb] kr ?_;refine Xtk 0 ?_
 iterate 3(refine Xtn ?_)
 refine Xr.take 4 (some 50) (v:=.slice A cut c) rfl rfl dK (by rfl) (fun w' hk=>by go_simp) ?_;refine ptm ?_;refine Xtk 5 ?_;refine Xtk 7 ?_
 iterate 2(refine Xtn ?_)
 refine Xr.take 10 (some 56) (v:=.slice (dropI A c cut) (m-cut) (c-cut)) rfl rfl dK (by rfl) (fun w' hk=>?_) ?_
 ·by_cases hce:c=cut
  ·have e1:dropI A c cut=A:=by unfold dropI;rw[if_pos hce]
   rw[e1];subst hce;obtain rfl:m=c:=om;go_simp
  ·have e1:dropI A c cut=A.map (fun x=>x.add cut):=by unfold dropI;rw[if_neg hce]
   have hce2:¬(c:Int)=(cut:Int):=om;rw[e1];go_simp
 refine ptm ?_;refine Xtk 11 ?_;refine Xtn ?_;refine Xr.take 13 (some 59) (v:=.int .i64 d) rfl rfl dK (by rfl) (fun w' hk=>by go_simp) ?_;refine ptm ?_;refine Xsp 6 fun w1 hE1 hK1 K hKK=>?_;go_simp;refine(H1 w1 hE1 ((HI.out.ext hE1).takeR (by have:=HMT.out;omega))).mono ?_;rintro e w2 ⟨v1,rfl,k2⟩;refine hKK _ _ (WI_kp k2.kp si) (hK1.kpP k2.kp si) ?_;clear hKK;refine ptm ?_;refine Xsp 14 fun w3 hE3 hK3 K hKK=>?_;go_simp;refine(H2 w3 (KpP.extOf hK3.kpPs x0 hgb) (k2.bd.ext hE3) ((HI.out.kpN hne hK3.kpPs).dropN (by have:=HMT.out;omega))).mono ?_;rintro e w4 ⟨v2,rfl,k4⟩;refine hKK _ _ (WI_kp k4.kp si) (hK3.kpP k4.kp si) ?_;clear hKK;refine ptm ?_;refine Xsp 15 fun w5 hE5 hK5 K hKK=>?_;go_simp;refine(pair_any M w5 (KpP.extOf hK5.kpPs x0 hgb) gb p hgb (k4.bd.ext hE5) om _ _ l r (((k2.tr.ext M hE3).kp M (k2.bd.ext hE3) k4.kp).ext M hE5) (k4.tr.ext M hE5) hn hh).mono ?_;rintro e w6 ⟨v3,rfl,k6⟩;refine hKK _ _ (WI_kp k6.kp si) (hK5.kpP k6.kp si) ?_;clear hKK;refine ptm ?_;refine Xtk 16 ?_;refine Xdn fun wz hEz hKz=>?_
 go_wp2_with fail
 go_ret
 exact⟨v3,rfl,k6.tr.ext M hEz,k6.bd.ext hEz,hKz.kpPs⟩
theorem build_any {w0:World}{g:Nat}{ok:Int->Prop}{S:World->Nat->List Int->Prop}(M:Mo w0 g ok S)(gb:Nat)(hgb:w0.heap.size<=gb):∀(f:Nat) (w:World) (_:Ext w0 w) (k:Nat) (_:BdAt w gb g k) (A:Option Addr) (c:Nat) (ts:List Int) (_:IL w A c ts) (_:NeA gb A) (L:Nat) (_:1<=L) (_:L<=f) (_:L<=ts.length) (_:ts.length<=32*L) (_:∀x∈ts,ok x) (_:ts.length<=65536) (_:k+2*L<=900000),
 Calls Tryz.prog 144 #[.pointer (some ⟨gb,0,none⟩),.slice A ts.length c,.int .i64 L] w (RetTr S ok gb g (k+(bldF f ts L).2) (bldF f ts L).1 w)
 | 0,w,_,k,_,A,c,ts,_,_,L,h1,h2,_,_,_,_,_=>om
 | f+1,w,x0,k,hb,A,c,ts,hi,hne,L,h1,h2,h3,h4,okt,htl,hk=>by
  unfold bldF;by_cases h5:L=1
  ·subst h5;rw[if_pos rfl];exact build_leaf M w x0 gb k hb om A c ts hi hne okt htl
  ·rw[if_neg h5]
   simp only
   obtain⟨half,hx⟩:∃x,x=L / 2:=⟨_,rfl⟩;obtain⟨cut,hc⟩:∃c,c=ts.length*(L / 2) / L:=⟨_,rfl⟩
   rw[<-hc,<-hx]
   rw[<-hx] at hc;obtain⟨b1,b2,b3,b4⟩:=cut_bd h3 h4 hx om hc;have l1:(ts.take cut).length=cut:=by rw[List.length_take];omega
   have l2:(ts.drop cut).length=ts.length-cut:=by rw[List.length_drop]
   obtain⟨i1,i2,i3,i4⟩:=bldF_ok f (ts.take cut) half om om om om;obtain⟨j1,j2,j3,j4⟩:=bldF_ok f (ts.drop cut) (L-half) om om om om;have q1:=Sh.Av.hgt_le i1 (by rw[i2];omega);have q2:=Sh.Av.hgt_le j1 (by rw[j2];omega);have e:k+((bldF f (ts.take cut) half).2+(bldF f (ts.drop cut) (L-half)).2+1)=k+(bldF f (ts.take cut) half).2+(bldF f (ts.drop cut) (L-half)).2+1:=om;rw[e];refine build_node M w x0 gb k hgb hb A c ts hi hne L half cut om om hx hc om htl _ _ (k+(bldF f (ts.take cut) half).2) _ om (by rw[i2,j2];omega) (by simp only[Sh.hgt];omega) (fun w' x hi'=>?_) (fun w' x hb' hi'=>?_)
   ·have h:=build_any M gb hgb f w' (x0.trans x) k (hb.ext x) A c (ts.take cut) hi' hne half om om om om (fun y hy=>okt y (List.mem_of_mem_take hy)) om om
    rwa [l1] at h
   ·have h:=build_any M gb hgb f w' x (k+(bldF f (ts.take cut) half).2) hb' (dropI A c cut) (c-cut) (ts.drop cut) hi' (hne.drop c cut) (L-half) om om om om (fun y hy=>okt y (List.mem_of_mem_drop hy)) om om
    rwa [l2] at h
theorem tree_any {w0:World}{g:Nat}{ok:Int->Prop}{S:World->Nat->List Int->Prop}(M:Mo w0 g ok S)(gb:Nat)(hgb:w0.heap.size<=gb)(w:World)(x0:Ext w0 w)(k:Nat)(hb:BdAt w gb g k)(hk:k<=800000)(A:Option Addr)(c:Nat)(ts:List Int)(hi:IL w A c ts)(hne:ts≠[]->NeA gb A)(okt:∀x∈ts,ok x)(htl:ts.length<=65536) :
 Calls Tryz.prog 79 #[.pointer (some ⟨gb,0,none⟩),.slice A ts.length c] w (RetTrO S ok gb g (k+(treeS ts).2) (treeS ts).1 w):=by
 unfold treeS;by_cases h0:ts=[]
 ·subst h0;rw[if_pos rfl];go_enter Tryz.func79,Tryz.ntmps79
  go_wp2
  go_ret
  exact⟨.nilIface,rfl,rfl,hb,KpP.refl _ _⟩
 ·rw[if_neg h0];have h1:1<=ts.length:=by cases ts with
   | nil=>exact absurd rfl h0
   | cons a b=>simp
  obtain⟨L,hL⟩:∃L,L=(ts.length+31) / 32:=⟨_,rfl⟩;have H:=build_any M gb hgb L w x0 k hb A c ts hi (hne h0) L om (Nat.le_refl _) om om okt htl om
  rw[<-hL];have HH:=lh H;have hcap:=hi.len;have h0I:((ts.length:Int) == 0)=false:=by simpa using(by omega:¬(ts.length:Int)=0)
  generalize bldF L ts L=bb at *;have HL:=lh hL;generalize ts.length=m at *;clear H hi hne h0 h1 hL;go_enter Tryz.func79,Tryz.ntmps79
  go_wp2_with (go_at_call 144;rw[show((m:Int)+32-1) / 32=(L:Int) by have:=HL.out;omega];refine HH.out.mono ?_;rintro e w1 ⟨v1,rfl,k1⟩)
  go_ret
  exact⟨v1,rfl,k1.tr,k1.bd,k1.kp⟩
end
end Go.Proofs.YtmpcoifnpflapaaGreat
