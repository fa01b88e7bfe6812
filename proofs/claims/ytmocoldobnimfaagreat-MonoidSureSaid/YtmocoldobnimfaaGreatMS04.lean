/- Texts of this proof: G2. -/
import Derived.Test.YtmocoldobnimfaaGreatMS00
set_option linter.all false
set_option maxRecDepth 100000
set_option maxHeartbeats 4000000
namespace Go.Proofs.YtmocoldobnimfaaGreat
section
open Go.RowKit
theorem dL {P:Prop} (h:P:=by
 clear HI2 HY2 HN HY
 go_wp2
 go_roundw
 case rel=>exact⟨i+1,by go_num,om,HI3,x2⟩
 case measure=>simp[intOf];omega):P:=h
theorem SV (A:Option Addr)(c:Nat)(l:List Sp)(x:Int)(w:World)(hl:SL w A c l):Calls Tryz.prog 119 #[.slice A l.length c,.int .i64 x] w (QD (.bool (has l x)) w):=by
 have hlen:=hl.len;have HN:=fun h=>lh (UO (l:=l) (x:=x) h);have HY:=fun i hi h1 h2=>lh (N7 (l:=l) (x:=x) (i:=i) hi h1 h2);generalize has l x=r at *;go_enter Tryz.func119,Tryz.ntmps119
 go_wp2
 go_loopw [9] (fun v wr=>∃i:Nat,v=.int .i64 i/\i<=l.length/\Hid (∀j (hj:j<l.length),j<i->¬(l[j].1<=x/\x<=l[j].2))/\Ext w wr) (fun v _=>l.length-(intOf v).toNat)
 case atStart=>exact⟨0,rfl,om,fun j _ hj=>absurd hj (Nat.not_lt_zero _),Ext.rfl' _⟩
 case round=>
  obtain⟨i,rfl,hi,HI,x1⟩:=hrel;by_cases hlt:i<l.length
  ·obtain⟨b,o,rfl,g1,g2⟩:=(hl.ext x1).get hlt;have hI:(i:Int)<l.length:=om;have HI2:=lh (show ¬(l[i].1<=x/\x<=l[i].2)->∀j (hj:j<l.length),j<i+1->¬(l[j].1<=x/\x<=l[j].2) from fun hn j hj hji=>by
    rcases Nat.lt_or_ge j i with h1|h1
    ·exact HI.out j hj h1
    ·have:j=i:=om;subst this;exact hn)
   have HY2:=HY i hlt;generalize l[i]=s at *;obtain⟨lo,hi2⟩:=s
   simp only at g1 g2 HI2 HY2
   obtain⟨b1,xa⟩:=Yy wr 38 #[.int .i64 lo,.int .i64 hi2];obtain⟨p0,p1,_,_,pz⟩:=b1.c2;have x2:=x1.trans xa;by_cases h1:lo<=x
   ·by_cases h2:x<=hi2
    ·have HR:=HY2 h1 h2;clear HI2 HY2 HN HY
     go_wp2
     go_ret
     exact⟨by rw[HR.out];rfl,x2⟩
    ·have HI3:=lh (HI2.out (fun h=>h2 h.2));exact dL
   ·have HI3:=lh (HI2.out (fun h=>h1 h.1));exact dL
  ·have hI:¬(i:Int)<l.length:=om;have HR:=HN (fun j hj=>HI.out j hj om);clear HN HY
   go_wp2
   go_ret
   exact⟨by rw[HR.out];rfl,x1⟩
def YS (l:List Sp)(i:Nat):Prop:=∀h:i<l.length,QH l[i]/\(0<i->(l.getD (i-1) (0,0)).2+2<=l[i].1)
def OkL (l:List Sp):Prop:=∀i,i<l.length->YS l i
open Classical in
noncomputable def QG (l:List Sp):Int:=if OkL l then(if 64<l.length then 4 else 0) else 1
theorem AQ {l:List Sp}{i:Nat}(hi:i<l.length)(h:¬YS l i):QG l=1:=by
 unfold QG;rw[if_neg (fun hk=>h (hk i hi))]
theorem vY {l:List Sp}(h:OkL l):QG l=if 64<l.length then 4 else 0:=by
 unfold QG;rw[if_pos h]
theorem OV {l:List Sp}{i:Nat}(hi:i<l.length)(h:∀j,j<i->YS l j) :
 (i=0->(QH l[i]->YS l i))/\(0<i->∃p:Sp,l[i-1]? = some p/\QH p/\(QH l[i]->p.2+2<=l[i].1->YS l i)/\(¬(p.2+2<=l[i].1)->¬YS l i))/\(¬QH l[i]->¬YS l i):=by
 refine⟨fun h0 hg _=>⟨hg,fun h1=>om⟩,fun h0=>?_,fun hg hk=>hg (hk hi).1⟩;have h1:i-1<l.length:=om;have hd:l.getD (i-1) (0,0)=l[i-1]:=by simp[List.getD_eq_getElem?_getD,List.getElem?_eq_getElem h1]
 refine⟨l[i-1],List.getElem?_eq_getElem h1,(h (i-1) om h1).1,fun hg hp _=>⟨hg,fun _=>by rw[hd];exact hp⟩,fun hp hk=>hp ?_⟩;have:=(hk hi).2 h0;rw[hd] at this;exact this
theorem OX {l:List Sp}{i:Nat}(h:∀j,j<i->YS l j)(hi:YS l i):∀j,j<i+1->YS l j:=fun j hj=>by
 rcases Nat.lt_or_ge j i with h1|h1
 ·exact h j h1
 ·have:j=i:=om;subst this;exact hi
theorem AW (A:Option Addr)(c:Nat)(l:List Sp)(w:World)(hl:SL w A c l):Calls Tryz.prog 124 #[.slice A l.length c] w (QD (.int .i64 (QG l)) w):=by
 have hlen:=hl.len;have HB:=fun i hi h=>lh (AQ (l:=l) (i:=i) hi h);have HK:=fun h=>lh (vY (l:=l) h);generalize QG l=r at *;go_enter Tryz.func124,Tryz.ntmps124
 go_wp2
 go_loopw [3] (fun v wr=>∃i:Nat,v=.int .i64 i/\i<=l.length/\Hid (∀j,j<i->YS l j)/\Ext w wr) (fun v _=>l.length-(intOf v).toNat)
 case atStart=>exact⟨0,rfl,om,fun j hj=>absurd hj (Nat.not_lt_zero _),Ext.rfl' _⟩
 case round=>
  obtain⟨i,rfl,hi,HI,x1⟩:=hrel;by_cases hlt:i<l.length
  ·obtain⟨s1,s2,s3⟩:=OV hlt HI.out;have HB2:=HB i hlt;have HM:=fun h=>lh (OX HI.out h);obtain⟨b,o,rfl,g1,g2⟩:=(hl.ext x1).get hlt;have h64:=hl.wf hlt;have hI:(i:Int)<l.length:=om;by_cases h0:0<i
   ·obtain⟨p,hp,hpg,s4,s5⟩:=s2 h0;have h1l:i-1<l.length:=om;rw[List.getElem?_eq_getElem h1l] at hp;injection hp with hp
    obtain⟨b2,o2,hA2,g4,g3⟩:=(hl.ext x1).get h1l;obtain⟨rfl,rfl⟩:b=b2/\o=o2:=by injection hA2 with h1;injection h1 with h2 h3 h4;exact⟨h2,h3⟩
    rw[hp] at g3;clear s1 s2 hA2 hp g4 h1l HI HB;obtain⟨k,rfl⟩:∃k,i=k+1:=⟨i-1,om⟩;simp only[Nat.add_sub_cancel] at g3;generalize l[k+1]=s at *;obtain⟨lo,hi2⟩:=s;obtain⟨plo,phi⟩:=p
    simp only at g1 g2 g3 s4 s5 hpg
    have hG:=fun(W':World)=>lh (FF (lo,hi2) W');unfold spV at hG
    simp only at hG
    have hphi:0<=phi/\phi<=1114111:=by unfold QH at hpg;simp only at hpg;omega
    have hki:(0:Int)<(k:Int)+1:=om;have hwk2:IntKind.i64.wrap (k:Int)=(k:Int):=wj;have hk0:(0:Int)<=(k:Int)+1:=om;have hk1:(k:Int)+1<(l.length:Int):=om;have hk2:(k:Int)<(l.length:Int):=om;have hto:((k:Int)+1).toNat=k+1:=om;have hwk:IntKind.i64.wrap ((k:Int)+1-1)=(k:Int):=wj;by_cases hg:QH (lo,hi2)
    ·have hgB:JO (lo,hi2)=true:=decide_eq_true hg;rw[hgB] at hG;have hlo:0<=lo/\lo<=1114111:=by unfold QH at hg;simp only at hg;omega
     have hwd:IntKind.i64.wrap (lo-phi)=lo-phi:=wj
     go_wp2_with fail
     refine(hG _).out.mono ?_;rintro e w1 ⟨rfl,x2⟩;replace g1:=x2.cell g1;replace g2:=x2.cell g2;replace g3:=x2.cell g3;have x12:=x1.trans x2
     go_upto_region 5 with fail
     have k1:=kc0 g1;have k3:=kc0 g3;by_cases hp:phi+2<=lo
     ·have hd:¬lo-phi<2:=om;have HI2:=HM (s4 hg om);clear s4 s5 HB2 HM HK hG hp;refine Xr.start [] kr ?_;refine Xtk 0 ?_
      iterate 2(refine Xtn ?_)
      iterate 17(first|refine Xtn ?_|refine Xsn ?_)
      refine Xtn ?_;refine Xdn fun w2 hE2 hK2=>?_;have x3:=x12.trans hK2.nil;clear k1 k3 g1 g2 g3 hE2 hK2 hd
      go_wp2_with fail
      go_roundw
      case rel=>exact⟨k+1+1,by go_num,om,HI2,x3⟩
      case measure=>simp[intOf];omega
     ·have hd:lo-phi<2:=om;have HR:=HB2 (s5 om);clear s4 s5 HB2 HM HK hG hp;refine Xr.start [] kr ?_;refine Xtk 0 ?_
      iterate 2(refine Xtn ?_)
      iterate 17(first|refine Xtn ?_|refine Xsn ?_)
      refine Xtn ?_;refine Xdn fun w2 hE2 hK2=>?_;have x3:=x12.trans hK2.nil;clear k1 k3 g1 g2 g3 hE2 hK2 hd
      go_wp2_with fail
      go_ret
      exact⟨by rw[HR.out];rfl,x3⟩
    ·have hgB:JO (lo,hi2)=false:=decide_eq_false hg;rw[hgB] at hG;have HR:=HB2 (s3 hg);clear s4 s5 HB2 HM HK
     go_wp2_with fail
     refine(hG _).out.mono ?_;rintro e w1 ⟨rfl,x2⟩;have x12:=x1.trans x2;clear hG
     go_upto_region 5 with fail
     refine Xr.start [] kr ?_;refine Xtk 0 ?_
     iterate 2(refine Xtn ?_)
     iterate 17(first|refine Xtn ?_|refine Xsn ?_)
     refine Xtn ?_;refine Xdn fun w2 hE2 hK2=>?_;have x3:=x12.trans hK2.nil;clear g1 g2 g3 hE2 hK2
     go_wp2_with fail
     go_ret
     exact⟨by rw[HR.out];rfl,x3⟩
   ·obtain rfl:i=0:=om;clear s2 HI HB;generalize l[0]=s at *;obtain⟨lo,hi2⟩:=s;simp only[Nat.zero_mul,Nat.add_zero] at g1 g2 s1 s3;have hG:=fun(W':World)=>lh (FF (lo,hi2) W');unfold spV at hG
    simp only at hG
    by_cases hg:QH (lo,hi2)
    ·have hgB:JO (lo,hi2)=true:=decide_eq_true hg;rw[hgB] at hG;have HI2:=HM (s1 trivial hg);clear HB2 HM HK s1 s3
     go_wp2_with fail
     refine(hG _).out.mono ?_;rintro e w1 ⟨rfl,x2⟩;have x12:=x1.trans x2;clear hG
     go_upto_region 5 with fail
     refine Xr.start [] kr ?_;refine Xtk 0 ?_
     iterate 2(refine Xtn ?_)
     iterate 17(first|refine Xtn ?_|refine Xsn ?_)
     refine Xtn ?_;refine Xdn fun w2 hE2 hK2=>?_;have x3:=x12.trans hK2.nil;clear g1 g2 hE2 hK2
     go_wp2_with fail
     go_roundw
     case rel=>exact⟨1,by go_num,om,HI2,x3⟩
     case measure=>simp[intOf];omega
    ·have hgB:JO (lo,hi2)=false:=decide_eq_false hg;rw[hgB] at hG;have HR:=HB2 (s3 hg);clear HB2 HM HK s1 s3
     go_wp2_with fail
     refine(hG _).out.mono ?_;rintro e w1 ⟨rfl,x2⟩;have x12:=x1.trans x2;clear hG
     go_upto_region 5 with fail
     refine Xr.start [] kr ?_;refine Xtk 0 ?_
     iterate 2(refine Xtn ?_)
     iterate 17(first|refine Xtn ?_|refine Xsn ?_)
     refine Xtn ?_;refine Xdn fun w2 hE2 hK2=>?_;have x3:=x12.trans hK2.nil;clear g1 g2 hE2 hK2
     go_wp2_with fail
     go_ret
     exact⟨by rw[HR.out];rfl,x3⟩
  ·have hI:¬(i:Int)<l.length:=om;have HR:=HK (fun j hj=>HI.out j om);clear HK HB HI;by_cases h64:64<l.length
   ·have HR2:Hid (r=4):=by show _=_;rw[HR.out,if_pos h64]
    have hI64:(64:Int)<l.length:=om;clear HR
    go_wp2
    go_ret
    exact⟨by rw[HR2.out];rfl,x1⟩
   ·have HR2:Hid (r=0):=by show _=_;rw[HR.out,if_neg h64]
    have hI64:¬(64:Int)<l.length:=om;clear HR
    go_wp2
    go_ret
    exact⟨by rw[HR2.out];rfl,x1⟩
end
