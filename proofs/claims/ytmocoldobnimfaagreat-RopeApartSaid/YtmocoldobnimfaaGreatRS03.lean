/- Texts of this proof: G2. -/
import Derived.Test.YtmocoldobnimfaaGreatRS00
set_option linter.all false
set_option maxHeartbeats 2000000
namespace Go.Proofs.YtmocoldobnimfaaGreat
section
open Go.RowKit
theorem G2z1 {P:Prop} (h:P:=by
 clear HI2 HY2 HN HY
 go_wp2
 go_roundw
 case rel=>exact⟨i+1,by go_num,om,HI3,x2⟩
 case measure=>simp[intOf];omega):P:=h
theorem sHas_any (A:Option Addr)(c:Nat)(l:List Sp)(x:Int)(w:World)(hl:SL w A c l):Calls Tryz.prog 119 #[.slice A l.length c,.int .i64 x] w (RetV (.bool (has l x)) w):=by
 have hlen:=hl.len;have HN:=fun h=>lh (noHas (l:=l) (x:=x) h);have HY:=fun i hi h1 h2=>lh (yesHas (l:=l) (x:=x) (i:=i) hi h1 h2);generalize has l x=r at *;go_enter Tryz.func119,Tryz.ntmps119
 go_wp2
 go_loopw [9] (fun v wr=>∃i:Nat,v=.int .i64 i/\i<=l.length/\Hid (∀j (hj:j<l.length),j<i->¬(l[j].1<=x/\x<=l[j].2))/\Ext w wr) (fun v _=>l.length-(intOf v).toNat)
 case atStart=>exact⟨0,rfl,om,fun j _ hj=>absurd hj (Nat.not_lt_zero _),Ext.rfl' _⟩
 case round=>
  obtain⟨i,rfl,hi,HI,x1⟩:=hrel;by_cases hlt:i<l.length
  ·obtain⟨b,o,rfl,g1,g2⟩:=(hl.ext x1).get hlt;have hI:(i:Int)<l.length:=om;have HI2:=lh (show ¬(l[i].1<=x/\x<=l[i].2)->∀j (hj:j<l.length),j<i+1->¬(l[j].1<=x/\x<=l[j].2) from fun hn j hj hji=>by
    rcases Nat.lt_or_ge j i with h1|h1
    ·exact HI.out j hj h1
    ·have:j=i:=om;subst this;exact hn)
   have HY2:=HY i hlt;generalize l[i]=s at *;obtain⟨lo,hi2⟩:=s
   simp only at g1 g2 HI2 HY2
   obtain⟨b1,xa⟩:=alloc1 wr 38 #[.int .i64 lo,.int .i64 hi2];obtain⟨p0,p1,_,_,pz⟩:=b1.c2;have x2:=x1.trans xa;by_cases h1:lo<=x
   ·by_cases h2:x<=hi2
    ·have HR:=HY2 h1 h2;clear HI2 HY2 HN HY
     go_wp2
     go_ret
     exact⟨by rw[HR.out];rfl,x2⟩
    ·have HI3:=lh (HI2.out (fun h=>h2 h.2));exact G2z1
   ·have HI3:=lh (HI2.out (fun h=>h1 h.1));exact G2z1
  ·have hI:¬(i:Int)<l.length:=om;have HR:=HN (fun j hj=>HI.out j hj om);clear HN HY
   go_wp2
   go_ret
   exact⟨by rw[HR.out];rfl,x1⟩
def okAt (l:List Sp)(i:Nat):Prop:=∀h:i<l.length,goodS l[i]/\(0<i->(l.getD (i-1) (0,0)).2+2<=l[i].1)
def OkL (l:List Sp):Prop:=∀i,i<l.length->okAt l i
open Classical in
noncomputable def validE (l:List Sp):Int:=if OkL l then(if 64<l.length then 4 else 0) else 1
theorem validE_bad {l:List Sp}{i:Nat}(hi:i<l.length)(h:¬okAt l i):validE l=1:=by
 unfold validE;rw[if_neg (fun hk=>h (hk i hi))]
theorem validE_ok {l:List Sp}(h:OkL l):validE l=if 64<l.length then 4 else 0:=by
 unfold validE;rw[if_pos h]
theorem okStep {l:List Sp}{i:Nat}(hi:i<l.length)(h:∀j,j<i->okAt l j) :
 (i=0->(goodS l[i]->okAt l i))/\(0<i->∃p:Sp,l[i-1]? = some p/\goodS p/\(goodS l[i]->p.2+2<=l[i].1->okAt l i)/\(¬(p.2+2<=l[i].1)->¬okAt l i))/\(¬goodS l[i]->¬okAt l i):=by
 refine⟨fun h0 hg _=>⟨hg,fun h1=>om⟩,fun h0=>?_,fun hg hk=>hg (hk hi).1⟩;have h1:i-1<l.length:=om;have hd:l.getD (i-1) (0,0)=l[i-1]:=by simp[List.getD_eq_getElem?_getD,List.getElem?_eq_getElem h1]
 refine⟨l[i-1],List.getElem?_eq_getElem h1,(h (i-1) om h1).1,fun hg hp _=>⟨hg,fun _=>by rw[hd];exact hp⟩,fun hp hk=>hp ?_⟩;have:=(hk hi).2 h0;rw[hd] at this;exact this
theorem okMore {l:List Sp}{i:Nat}(h:∀j,j<i->okAt l j)(hi:okAt l i):∀j,j<i+1->okAt l j:=fun j hj=>by
 rcases Nat.lt_or_ge j i with h1|h1
 ·exact h j h1
 ·have:j=i:=om;subst this;exact hi
end
end Go.Proofs.YtmocoldobnimfaaGreat
