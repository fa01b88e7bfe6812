/- Texts of this proof: R1 E6 E7 E6o. -/
import Derived.Test.YtmocoldobnimfaaGreatRP09
import Derived.Deep.DrawnRows
set_option linter.all false
set_option maxHeartbeats 1000000
namespace Go.Proofs.YtmocoldobnimfaaGreat
section
open Go.RowKit
attribute [local go_sem ↓] Go.wp_at_zero Go.wp_at_succ
def TyQ (T:Nat)(w:World)(p:Nat→Prop):Prop:=∀b,p b→∃cur,w.heap[b]? = some (.cells cur T (0,0))
theorem TyQ.no {T:Nat}{w:World}{p:Nat→Prop}(h:TyQ T w p){b T':Nat}{cur:Array Value}(hb:w.heap[b]? = some (.cells cur T' (0,0)))(hT:T'≠T):¬p b:=fun hp=>by
 obtain⟨cur',e⟩:=h b hp;rw[hb] at e;injection e with e
 injection e with _ e
 exact hT e
theorem TyQ.one {T g:Nat}{w:World}{cs:Array Value}(h:Blk w g T cs):TyQ T w (·=g):=fun b hb=>by subst hb;exact⟨cs,h⟩
def TyA (T:Nat)(w:World)(A:Option Addr):Prop:=∀b,A.map (·.block)=some b→∃cur,w.heap[b]? = some (.cells cur T (0,0))
theorem TyA.ext {T:Nat}{w w':World}{A:Option Addr}(h:TyA T w A)(x:Ext w w'):TyA T w' A:=fun b hb=>by
 obtain⟨cur,e⟩:=h b hb;exact⟨cur,(x.block b (Array.getElem?_eq_some_iff.1 e).1).trans e⟩
theorem TyA.kpP {T T':Nat}{w w':World}{A:Option Addr}{p:Nat→Prop}(h:TyA T w A)(k:KpP p w w')(hp:TyQ T' w p)(hT:T≠T'):TyA T w' A:=fun b hb=>by
 obtain⟨cur,e⟩:=h b hb;exact⟨cur,(k.block b (Array.getElem?_eq_some_iff.1 e).1 (hp.no e hT)).trans e⟩
theorem TyA.own {T base size n c:Nat}{w:World}{A:Option Addr}{xs:List Value}(h:OwnS w base T size A n c xs):TyA T w A:=fun b hb=>by
 rcases OwnS.form h with⟨rfl,_⟩|⟨g,cur,rfl,_,hh,_⟩
 ·cases hb
 ·injection hb with hb;subst hb;exact⟨cur,hh⟩
structure Mo (w0:World)(g:Nat)(ok:Int→Prop)(S:World→Nat→List Int→Prop):Prop where
 ext:∀{w w':World} {a:Nat} {ts:List Int},S w a ts→Ext w w'→S w' a ts
 kp:∀{w w':World} {a:Nat} {ts:List Int} {p:Nat→Prop},S w a ts→KpP p w w'→TyQ 170 w p→S w' a ts
 join:∀(w:World),Ext w0 w→∀(a b:Nat) (ta tb:List Int),S w a ta→S w b tb→(∀x∈ta,ok x)→(∀x∈tb,ok x)→ta.length+tb.length≤65536→
  Calls Tryz.prog 27 #[.pointer (some ⟨g,0,none⟩),.pointer (some ⟨a,0,none⟩),.pointer (some ⟨b,0,none⟩)] w (fun e w'=>∃gs,e=.returned (.tuple #[.pointer (some ⟨gs,0,none⟩),.int .i64 0])∧S w' gs (ta++tb)∧Ext w w')
 of:∀(w:World),Ext w0 w→∀(A:Option Addr) (c:Nat) (ts:List Int),IL w A c ts→(∀x∈ts,ok x)→ts.length≤65536→
  Calls Tryz.prog 26 #[.pointer (some ⟨g,0,none⟩),.slice A ts.length c] w (fun e w'=>∃gs,e=.returned (.tuple #[.pointer (some ⟨gs,0,none⟩),.int .i64 0])∧S w' gs ts∧Ext w w')
 emp:∀(w:World),Ext w0 w→Calls Tryz.prog 35 #[.pointer (some ⟨g,0,none⟩)] w (fun e w'=>∃gs,e=.returned (.pointer (some ⟨gs,0,none⟩))∧S w' gs []∧Ext w w')
def lfV (b:Nat):Value:=.iface 236 (.pointer (some ⟨b,0,none⟩))
def inV (b:Nat):Value:=.iface 239 (.pointer (some ⟨b,0,none⟩))
def RtAt (S:World→Nat→List Int→Prop)(w:World):Value→Sh→Prop
 | v,.lf ts=>∃(b:Nat) (A:Option Addr) (c gs:Nat),v=lfV b∧Blk w b 238 #[.slice A ts.length c,.pointer (some ⟨gs,0,none⟩)]∧IL w A c ts∧TyA 3 w A∧S w gs ts
 | v,.nd l r=>∃(b:Nat) (vl vr:Value) (gs:Nat),v=inV b∧Blk w b 241 #[vl,vr,.int .i64 (l.text++r.text).length,.int .i64 (Sh.nd l r).hgt,.pointer (some ⟨gs,0,none⟩)]∧RtAt S w vl l∧RtAt S w vr r∧S w gs (l.text++r.text)
section
variable {w0 w w':World} {g:Nat} {ok:Int→Prop} {S:World→Nat→List Int→Prop}
theorem RtAt.ext (M:Mo w0 g ok S)(x:Ext w w'):∀{t:Sh} {v:Value},RtAt S w v t→RtAt S w' v t
 | .lf _,_,⟨b,A,c,gs,e,hb,hi,ht,hs⟩=>⟨b,A,c,gs,e,hb.ext x,hi.ext x,ht.ext x,M.ext hs x⟩
 | .nd _ _,_,⟨b,vl,vr,gs,e,hb,h1,h2,hs⟩=>⟨b,vl,vr,gs,e,hb.ext x,RtAt.ext M x h1,RtAt.ext M x h2,M.ext hs x⟩
theorem RtAt.kp (M:Mo w0 g ok S){p:Nat→Prop}(k:KpP p w w')(q:TyQ 170 w p):∀{t:Sh} {v:Value},RtAt S w v t→RtAt S w' v t
 | .lf _,_,⟨b,A,c,gs,e,hb,hi,ht,hs⟩=>⟨b,A,c,gs,e,k.blk hb (q.no hb de),hi.kp k (fun _ b' hb'=>by
  obtain⟨cur,e'⟩:=ht b' hb';exact q.no e' de),ht.kpP k q de,M.kp hs k q⟩
 | .nd _ _,_,⟨b,vl,vr,gs,e,hb,h1,h2,hs⟩=>⟨b,vl,vr,gs,e,k.blk hb (q.no hb de),RtAt.kp M k q h1,RtAt.kp M k q h2,M.kp hs k q⟩
def RtO (S:World→Nat→List Int→Prop)(w:World):Value→Option Sh→Prop
 | v,none=>v=.nilIface
 | v,some t=>RtAt S w v t
theorem RtO.ext (M:Mo w0 g ok S)(x:Ext w w'):∀{t:Option Sh} {v:Value},RtO S w v t→RtO S w' v t
 | none,_,h=>h
 | some _,_,h=>RtAt.ext M x h
theorem RtO.kp (M:Mo w0 g ok S){p:Nat→Prop}(k:KpP p w w')(q:TyQ 170 w p):∀{t:Option Sh} {v:Value},RtO S w v t→RtO S w' v t
 | none,_,h=>h
 | some _,_,h=>RtAt.kp M k q h
end
end
section
open Go.RowKit
theorem rText_any (A:Option Addr)(c:Nat)(l:List Int)(m:Nat)(w:World)(hl:IL w A c l)(hm:m≤1000000) :
 Calls Tryz.prog 25 #[.slice A l.length c,.int .i64 m] w (RetIL (rtext l m) w):=by
 obtain⟨i0,hi0,hz0,hz1,hz2⟩:=info_parts infoInt;obtain⟨a1,a2⟩:=hl.len;go_enter Tryz.func25,Tryz.ntmps25
 go_wp2
 go_loopw [5,6] (fun v i wr=>∃(k:Nat) (A':Option Addr) (c':Nat),k≤l.length∧k≤m∧i=.int .i64 k∧v=.slice A' (rtext l k).length c'∧OwnI wr w.heap.size 3 A' c' (rtext l k)∧Ext w wr) (fun _ i _=>l.length-(intOf i).toNat)
 case atStart=>exact⟨0,none,0,Nat.zero_le _,Nat.zero_le _,rfl,rfl,OwnS.nil _ _ _ _,Ext.rfl' _⟩
 case round=>
  obtain⟨k,A',c',hk,hkm,rfl,rfl,hown,hext⟩:=hrel;have hlr:=rtext_len l k;by_cases hlt:k<l.length
  ·by_cases hlm:k<m
   ·have e1:=Ext.alloc wr (.cells (tab12.map (Value.int .i64)).toArray 3);have hB:=(Blk.new wr 3 (tab12.map (Value.int .i64)).toArray);have hs:=rtext_succ l k hlt;have hp:=around_bd l[k] 12 om;have hpk:pick l k 12=around l[k] 12:=by simp[pick,hlt]
    obtain⟨p,hp12,hpp⟩:∃p:Nat,p<12∧around l[k] 12=(p:Int):=⟨(around l[k] 12).toNat,om,om⟩;have hsy:sym12 l[k]=tab12.getD p 0:=by unfold sym12;rw[hpp];rfl
    rw[hsy] at hs;rw[hpp] at hpk;have HS:=lh hs;have HP:=lh hpk;clear hs hpk hsy hpp hp
    go_wp2_with fail
    refine(pick_any A c l k 12 _ (hl.ext (hext.trans e1)) om om om).mono ?_;rintro e w1 h1;obtain⟨rfl,hx1⟩:=h1.v;rw[HP.out];have hcell:=(hB.ext hx1).cell p;rw[show((tab12.map (Value.int .i64)).toArray)[p]? = some (.int .i64 (tab12.getD p 0)) by
     simp[List.getD,List.getElem?_eq_getElem (show p<tab12.length from hp12)]] at hcell
    have hE:=hext.trans (e1.trans hx1);have hown1:=OwnS.ext hown (e1.trans hx1);have hlt1:=(hB.ext hx1).lt;clear hB;have hp0:(p:Int)<12:=om;have HT:=lh (tab12_bd p hp12);generalize tab12.getD p 0=s at *
    go_wp2_with ((at_builtin;refine wpList_app1I (w1:=w1) rfl _ _ _ rfl 3 infoInt Tryz.underlying22 w hE s rfl A' c' (rtext l k) rfl hown1 rfl om (rtext l (k+1)) HS.out ?_;intro A2 c2 w2 hown2 hext2 _ _))
    go_roundw
    case rel=>exact⟨k+1,A2,c2,om,om,by go_num,rfl,hown2,hext2⟩
    case measure=>simp[intOf];omega
   ·have hk':k=m:=om;subst hk'
    go_wp2
    go_ret
    exact⟨A',c',rfl,IL.of_own hown (fun x hx=>I64_of (by have:=rtext_bd l k x hx;omega)),hext,OwnS.row hown⟩
  ·have hk':rtext l k=rtext l m:=by
    unfold rtext;rw[List.take_of_length_le om,List.take_of_length_le om]
   rw[hk'] at hown;have HK:=lh hk';clear hk'
   go_wp2
   go_ret
   rw[←HK.out] at hown ⊢;exact⟨A',c',rfl,IL.of_own hown (fun x hx=>I64_of (by have:=rtext_bd l k x hx;omega)),hext,OwnS.row hown⟩
end
section
open Go.RowKit
structure Ed where
 at_:Int
 del:Int
 ins:List Int
end
section
open Go.RowKit
def RetOI (xs:List Int)(w:World)(e:Ending)(w':World):Prop:=∃(A:Option Addr) (c:Nat),e=.returned (.slice A xs.length c)∧OwnI w' w.heap.size 3 A c xs∧(∀x∈xs,I64 x)∧Ext w w'
theorem rTextO_any (A:Option Addr)(c:Nat)(l:List Int)(m:Nat)(w:World)(hl:IL w A c l)(hm:m≤1000000) :
 Calls Tryz.prog 25 #[.slice A l.length c,.int .i64 m] w (RetOI (rtext l m) w):=by
 obtain⟨i0,hi0,hz0,hz1,hz2⟩:=info_parts infoInt;obtain⟨a1,a2⟩:=hl.len;go_enter Tryz.func25,Tryz.ntmps25
 go_wp2
 go_loopw [5,6] (fun v i wr=>∃(k:Nat) (A':Option Addr) (c':Nat),k≤l.length∧k≤m∧i=.int .i64 k∧v=.slice A' (rtext l k).length c'∧OwnI wr w.heap.size 3 A' c' (rtext l k)∧Ext w wr) (fun _ i _=>l.length-(intOf i).toNat)
 case atStart=>exact⟨0,none,0,Nat.zero_le _,Nat.zero_le _,rfl,rfl,OwnS.nil _ _ _ _,Ext.rfl' _⟩
 case round=>
  obtain⟨k,A',c',hk,hkm,rfl,rfl,hown,hext⟩:=hrel;have hlr:=rtext_len l k;by_cases hlt:k<l.length
  ·by_cases hlm:k<m
   ·have e1:=Ext.alloc wr (.cells (tab12.map (Value.int .i64)).toArray 3);have hB:=(Blk.new wr 3 (tab12.map (Value.int .i64)).toArray);have hs:=rtext_succ l k hlt;have hp:=around_bd l[k] 12 om;have hpk:pick l k 12=around l[k] 12:=by simp[pick,hlt]
    obtain⟨p,hp12,hpp⟩:∃p:Nat,p<12∧around l[k] 12=(p:Int):=⟨(around l[k] 12).toNat,om,om⟩;have hsy:sym12 l[k]=tab12.getD p 0:=by unfold sym12;rw[hpp];rfl
    rw[hsy] at hs;rw[hpp] at hpk;have HS:=lh hs;have HP:=lh hpk;clear hs hpk hsy hpp hp
    go_wp2_with fail
    refine(pick_any A c l k 12 _ (hl.ext (hext.trans e1)) om om om).mono ?_;rintro e w1 h1;obtain⟨rfl,hx1⟩:=h1.v;rw[HP.out];have hcell:=(hB.ext hx1).cell p;rw[show((tab12.map (Value.int .i64)).toArray)[p]? = some (.int .i64 (tab12.getD p 0)) by
     simp[List.getD,List.getElem?_eq_getElem (show p<tab12.length from hp12)]] at hcell
    have hE:=hext.trans (e1.trans hx1);have hown1:=OwnS.ext hown (e1.trans hx1);have hlt1:=(hB.ext hx1).lt;clear hB;have hp0:(p:Int)<12:=om;have HT:=lh (tab12_bd p hp12);generalize tab12.getD p 0=s at *
    go_wp2_with ((at_builtin;refine wpList_app1I (w1:=w1) rfl _ _ _ rfl 3 infoInt Tryz.underlying22 w hE s rfl A' c' (rtext l k) rfl hown1 rfl om (rtext l (k+1)) HS.out ?_;intro A2 c2 w2 hown2 hext2 _ _))
    go_roundw
    case rel=>exact⟨k+1,A2,c2,om,om,by go_num,rfl,hown2,hext2⟩
    case measure=>simp[intOf];omega
   ·have hk':k=m:=om;subst hk'
    go_wp2
    go_ret
    exact⟨A',c',rfl,hown,fun x hx=>I64_of (by have:=rtext_bd l k x hx;omega),hext⟩
  ·have hk':rtext l k=rtext l m:=by
    unfold rtext;rw[List.take_of_length_le om,List.take_of_length_le om]
   rw[hk'] at hown;have HK:=lh hk';clear hk'
   go_wp2
   go_ret
   rw[←HK.out] at hown ⊢;exact⟨A',c',rfl,hown,fun x hx=>I64_of (by have:=rtext_bd l k x hx;omega),hext⟩
end
end Go.Proofs.YtmocoldobnimfaaGreat
