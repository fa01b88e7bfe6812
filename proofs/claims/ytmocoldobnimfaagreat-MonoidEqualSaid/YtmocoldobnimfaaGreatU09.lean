/- Texts of this proof: P3 G2 P4 J1. -/
import Derived.Test.YtmocoldobnimfaaGreatU06
import Derived.Test.YtmocoldobnimfaaGreatU07
import Derived.Test.YtmocoldobnimfaaGreatU08
set_option linter.all false
set_option maxRecDepth 100000
set_option maxHeartbeats 4000000
namespace Go.Proofs.YtmocoldobnimfaaGreat
section
open Go.RowKit
structure Hin where
 op:Int
 x:Int
 y:Int
 n:Int
 A:Option Addr
 c:Nat
 l:List Sp
def Hin.ins (h:Hin):Ins:=⟨h.op,h.x,h.y,h.n,h.l⟩
def Hin.wf (h:Hin):Prop:=I64 h.op∧I64 h.x∧I64 h.y∧I64 h.n
def flatN (hs:List Hin):List Value:=hs.flatMap fun h=>[.int .i64 h.op,.int .i64 h.x,.int .i64 h.y,.int .i64 h.n,.slice h.A h.l.length h.c]
theorem flatN_append (l m:List Hin):flatN (l++m)=flatN l++flatN m:=by simp[flatN]
theorem flatN_len (l:List Hin):(flatN l).length=l.length*5:=by
 induction l with
 | nil=>rfl
 | cons y l ih=>simp only[flatN,List.flatMap_cons,List.length_append] at *;simp only[List.length_cons,List.length_nil];omega
theorem flatN_one (l:List Hin):∀u∈flatN l,u.oneCell'=true:=by
 intro u hu;obtain⟨o,_,hu⟩:=List.mem_flatMap.1 hu;simp only[List.mem_cons,List.not_mem_nil,or_false] at hu;rcases hu with rfl|rfl|rfl|rfl|rfl<;>rfl
theorem flatN_get (l:List Hin)(i:Nat)(h:i<l.length):(flatN l)[i*5]? = some (.int .i64 l[i].op)∧(flatN l)[i*5+1]? = some (.int .i64 l[i].x)∧(flatN l)[i*5+2]? = some (.int .i64 l[i].y)∧
 (flatN l)[i*5+3]? = some (.int .i64 l[i].n)∧(flatN l)[i*5+4]? = some (.slice l[i].A l[i].l.length l[i].c):=by
 induction l generalizing i with
 | nil=>simp at h
 | cons y l ih=>
  cases i with
  | zero=>simp[flatN]
  | succ i=>
   have hi:i<l.length:=by simpa using h
   have e:flatN (y::l)=.int .i64 y.op::.int .i64 y.x::.int .i64 y.y::.int .i64 y.n::.slice y.A y.l.length y.c::flatN l:=by simp[flatN]
   have e1:(i+1)*5=i*5+5:=om;rw[e,e1];exact ih i hi
structure PL (w:World)(A:Option Addr)(c:Nat)(hs:List Hin):Prop where
 le:hs.length≤c
 cap:c≤maxLen
 rng:∀h∈hs,h.wf
 sl:∀h∈hs,SL w h.A h.c h.l
 at_:hs≠[]→∃b o,A=some ⟨b,o,none⟩∧∀i (h:i<hs.length),w.cell? ⟨b,o+i*5,none⟩=some (.int .i64 hs[i].op)∧w.cell? ⟨b,o+i*5+1,none⟩=some (.int .i64 hs[i].x)∧
  w.cell? ⟨b,o+i*5+2,none⟩=some (.int .i64 hs[i].y)∧w.cell? ⟨b,o+i*5+3,none⟩=some (.int .i64 hs[i].n)∧w.cell? ⟨b,o+i*5+4,none⟩=some (.slice hs[i].A hs[i].l.length hs[i].c)
namespace PL
variable {w w':World} {A:Option Addr} {c:Nat} {hs:List Hin}
theorem ext (h:PL w A c hs)(k:Ext w w'):PL w' A c hs:=by
 refine⟨h.le,h.cap,h.rng,fun z hz=>(h.sl z hz).ext k,fun hn=>?_⟩;obtain⟨b,o,rfl,hc⟩:=h.at_ hn;exact⟨b,o,rfl,fun i hi=>⟨k.cell (hc i hi).1,k.cell (hc i hi).2.1,k.cell (hc i hi).2.2.1,k.cell (hc i hi).2.2.2.1,k.cell (hc i hi).2.2.2.2⟩⟩
theorem nil (w:World):PL w none 0 []:=⟨Nat.le_refl _,Nat.zero_le _,by simp,by simp,fun h=>absurd rfl h⟩
theorem len (h:PL w A c hs):hs.length≤c∧c≤9223372036854775807:=⟨h.le,by have:=h.cap;unfold maxLen at this;omega⟩
theorem get {k:Nat}(h:PL w A c hs)(hk:k<hs.length):∃b o,A=some ⟨b,o,none⟩∧w.cell? ⟨b,o+k*5,none⟩=some (.int .i64 hs[k].op)∧w.cell? ⟨b,o+k*5+1,none⟩=some (.int .i64 hs[k].x)∧
 w.cell? ⟨b,o+k*5+2,none⟩=some (.int .i64 hs[k].y)∧w.cell? ⟨b,o+k*5+3,none⟩=some (.int .i64 hs[k].n)∧w.cell? ⟨b,o+k*5+4,none⟩=some (.slice hs[k].A hs[k].l.length hs[k].c):=by
 obtain⟨b,o,rfl,hc⟩:=h.at_ (by intro h0;subst h0;simp at hk);exact⟨b,o,rfl,hc k hk⟩
theorem of_own {base T:Nat}(h:OwnS w base T 5 A hs.length c (flatN hs))(hr:∀z∈hs,z.wf)(hsl:∀z∈hs,SL w z.A z.c z.l):PL w A c hs:=by
 have hc:=OwnS.caps h;refine⟨hc.1,by unfold maxLen;omega,hr,hsl,fun hn=>?_⟩;obtain⟨b,o,hA,hcell⟩:=OwnS.cells h (by intro e;have:=flatN_len hs;rw[e] at this;simp at this;exact hn (List.length_eq_zero_iff.1 om));have one:∀(i:Nat) (v:Value),(flatN hs)[i]? = some v→w.cell? ⟨b,o+i,none⟩=some v:=fun i v hv=>by
  obtain⟨l1,e1⟩:=List.getElem?_eq_some_iff.1 hv;rw[hcell i l1,e1]
 refine⟨b,o,hA,fun i hi=>?_⟩;obtain⟨g0,g1,g2,g3,g4⟩:=flatN_get hs i hi;refine⟨one _ _ g0,?_,?_,?_,?_⟩
 ·rw[Nat.add_assoc];exact one _ _ g1
 ·rw[Nat.add_assoc];exact one _ _ g2
 ·rw[Nat.add_assoc];exact one _ _ g3
 ·rw[Nat.add_assoc];exact one _ _ g4
end PL
end
section
open Go.RowKit
theorem G2z1 {P:Prop} (h:P:=by
 clear HI2 HY2 HN HY
 go_wp2
 go_roundw
 case rel=>exact⟨i+1,by go_num,om,HI3,x2⟩
 case measure=>simp[intOf];omega):P:=h
theorem sHas_any (A:Option Addr)(c:Nat)(l:List Sp)(x:Int)(w:World)(hl:SL w A c l):Calls Tryz.prog 119 #[.slice A l.length c,.int .i64 x] w (RetV (.bool (has l x)) w):=by
 have hlen:=hl.len;have HN:=fun h=>lh (noHas (l:=l) (x:=x) h);have HY:=fun i hi h1 h2=>lh (yesHas (l:=l) (x:=x) (i:=i) hi h1 h2);generalize has l x=r at *;go_enter Tryz.func119,Tryz.ntmps119
 go_wp2
 go_loopw [9] (fun v wr=>∃i:Nat,v=.int .i64 i∧i≤l.length∧Hid (∀j (hj:j<l.length),j<i→¬(l[j].1≤x∧x≤l[j].2))∧Ext w wr) (fun v _=>l.length-(intOf v).toNat)
 case atStart=>exact⟨0,rfl,om,fun j _ hj=>absurd hj (Nat.not_lt_zero _),Ext.rfl' _⟩
 case round=>
  obtain⟨i,rfl,hi,HI,x1⟩:=hrel;by_cases hlt:i<l.length
  ·obtain⟨b,o,rfl,g1,g2⟩:=(hl.ext x1).get hlt;have hI:(i:Int)<l.length:=om;have HI2:=lh (show ¬(l[i].1≤x∧x≤l[i].2)→∀j (hj:j<l.length),j<i+1→¬(l[j].1≤x∧x≤l[j].2) from fun hn j hj hji=>by
    rcases Nat.lt_or_ge j i with h1|h1
    ·exact HI.out j hj h1
    ·have:j=i:=om;subst this;exact hn)
   have HY2:=HY i hlt;generalize l[i]=s at *;obtain⟨lo,hi2⟩:=s
   simp only at g1 g2 HI2 HY2
   obtain⟨b1,xa⟩:=alloc1 wr 38 #[.int .i64 lo,.int .i64 hi2];obtain⟨p0,p1,_,_,pz⟩:=b1.c2;have x2:=x1.trans xa;by_cases h1:lo≤x
   ·by_cases h2:x≤hi2
    ·have HR:=HY2 h1 h2;clear HI2 HY2 HN HY
     go_wp2
     go_ret
     exact⟨by rw[HR.out];rfl,x2⟩
    ·have HI3:=lh (HI2.out (fun h=>h2 h.2));exact G2z1
   ·have HI3:=lh (HI2.out (fun h=>h1 h.1));exact G2z1
  ·have hI:¬(i:Int)<l.length:=om;have HR:=HN (fun j hj=>HI.out j hj om);clear HN HY
   go_wp2
   go_ret
   exact⟨by rw[HR.out];rfl,x1⟩
def okAt (l:List Sp)(i:Nat):Prop:=∀h:i<l.length,goodS l[i]∧(0<i→(l.getD (i-1) (0,0)).2+2≤l[i].1)
def OkL (l:List Sp):Prop:=∀i,i<l.length→okAt l i
open Classical in
noncomputable def validE (l:List Sp):Int:=if OkL l then(if 64<l.length then 4 else 0) else 1
theorem validE_bad {l:List Sp}{i:Nat}(hi:i<l.length)(h:¬okAt l i):validE l=1:=by
 unfold validE;rw[if_neg (fun hk=>h (hk i hi))]
theorem validE_ok {l:List Sp}(h:OkL l):validE l=if 64<l.length then 4 else 0:=by
 unfold validE;rw[if_pos h]
theorem okStep {l:List Sp}{i:Nat}(hi:i<l.length)(h:∀j,j<i→okAt l j) :
 (i=0→(goodS l[i]→okAt l i))∧(0<i→∃p:Sp,l[i-1]? = some p∧goodS p∧(goodS l[i]→p.2+2≤l[i].1→okAt l i)∧(¬(p.2+2≤l[i].1)→¬okAt l i))∧(¬goodS l[i]→¬okAt l i):=by
 refine⟨fun h0 hg _=>⟨hg,fun h1=>om⟩,fun h0=>?_,fun hg hk=>hg (hk hi).1⟩;have h1:i-1<l.length:=om;have hd:l.getD (i-1) (0,0)=l[i-1]:=by simp[List.getD_eq_getElem?_getD,List.getElem?_eq_getElem h1]
 refine⟨l[i-1],List.getElem?_eq_getElem h1,(h (i-1) om h1).1,fun hg hp _=>⟨hg,fun _=>by rw[hd];exact hp⟩,fun hp hk=>hp ?_⟩;have:=(hk hi).2 h0;rw[hd] at this;exact this
theorem okMore {l:List Sp}{i:Nat}(h:∀j,j<i→okAt l j)(hi:okAt l i):∀j,j<i+1→okAt l j:=fun j hj=>by
 rcases Nat.lt_or_ge j i with h1|h1
 ·exact h j h1
 ·have:j=i:=om;subst this;exact hi
theorem gValid_any (A:Option Addr)(c:Nat)(l:List Sp)(w:World)(hl:SL w A c l):Calls Tryz.prog 124 #[.slice A l.length c] w (RetV (.int .i64 (validE l)) w):=by
 have hlen:=hl.len;have HB:=fun i hi h=>lh (validE_bad (l:=l) (i:=i) hi h);have HK:=fun h=>lh (validE_ok (l:=l) h);generalize validE l=r at *;go_enter Tryz.func124,Tryz.ntmps124
 go_wp2
 go_loopw [3] (fun v wr=>∃i:Nat,v=.int .i64 i∧i≤l.length∧Hid (∀j,j<i→okAt l j)∧Ext w wr) (fun v _=>l.length-(intOf v).toNat)
 case atStart=>exact⟨0,rfl,om,fun j hj=>absurd hj (Nat.not_lt_zero _),Ext.rfl' _⟩
 case round=>
  obtain⟨i,rfl,hi,HI,x1⟩:=hrel;by_cases hlt:i<l.length
  ·obtain⟨s1,s2,s3⟩:=okStep hlt HI.out;have HB2:=HB i hlt;have HM:=fun h=>lh (okMore HI.out h);obtain⟨b,o,rfl,g1,g2⟩:=(hl.ext x1).get hlt;have h64:=hl.wf hlt;have hI:(i:Int)<l.length:=om;by_cases h0:0<i
   ·obtain⟨p,hp,hpg,s4,s5⟩:=s2 h0;have h1l:i-1<l.length:=om;rw[List.getElem?_eq_getElem h1l] at hp;injection hp with hp
    obtain⟨b2,o2,hA2,g4,g3⟩:=(hl.ext x1).get h1l;obtain⟨rfl,rfl⟩:b=b2∧o=o2:=by injection hA2 with h1;injection h1 with h2 h3 h4;exact⟨h2,h3⟩
    rw[hp] at g3;clear s1 s2 hA2 hp g4 h1l HI HB;obtain⟨k,rfl⟩:∃k,i=k+1:=⟨i-1,om⟩;simp only[Nat.add_sub_cancel] at g3;generalize l[k+1]=s at *;obtain⟨lo,hi2⟩:=s;obtain⟨plo,phi⟩:=p
    simp only at g1 g2 g3 s4 s5 hpg
    have hG:=fun(W':World)=>lh (good_any (lo,hi2) W');unfold spV at hG
    simp only at hG
    have hphi:0≤phi∧phi≤1114111:=by unfold goodS at hpg;simp only at hpg;omega
    have hki:(0:Int)<(k:Int)+1:=om;have hwk2:IntKind.i64.wrap (k:Int)=(k:Int):=wj;have hk0:(0:Int)≤(k:Int)+1:=om;have hk1:(k:Int)+1<(l.length:Int):=om;have hk2:(k:Int)<(l.length:Int):=om;have hto:((k:Int)+1).toNat=k+1:=om;have hwk:IntKind.i64.wrap ((k:Int)+1-1)=(k:Int):=wj;by_cases hg:goodS (lo,hi2)
    ·have hgB:goodB (lo,hi2)=true:=decide_eq_true hg;rw[hgB] at hG;have hlo:0≤lo∧lo≤1114111:=by unfold goodS at hg;simp only at hg;omega
     have hwd:IntKind.i64.wrap (lo-phi)=lo-phi:=wj
     go_wp2_with fail
     refine(hG _).out.mono ?_;rintro e w1 ⟨rfl,x2⟩;replace g1:=x2.cell g1;replace g2:=x2.cell g2;replace g3:=x2.cell g3;have x12:=x1.trans x2
     go_upto_region 5 with fail
     have k1:=kc0 g1;have k3:=kc0 g3;by_cases hp:phi+2≤lo
     ·have hd:¬lo-phi<2:=om;have HI2:=HM (s4 hg om);clear s4 s5 HB2 HM HK hG hp;refine Xr.start [] kr ?_;refine Xtk 0 ?_
      iterate 2(refine Xtn ?_)
      iterate 17(first|refine Xtn ?_|refine Xsn ?_)
      refine Xtn ?_;refine Xdn fun w2 hE2 hK2=>?_;have x3:=x12.trans hK2.nil;clear k1 k3 g1 g2 g3 hE2 hK2 hd
      go_wp2_with fail
      go_roundw
      case rel=>exact⟨k+1+1,by go_num,om,HI2,x3⟩
      case measure=>simp[intOf];omega
     ·have hd:lo-phi<2:=om;have HR:=HB2 (s5 om);clear s4 s5 HB2 HM HK hG hp;refine Xr.start [] kr ?_;refine Xtk 0 ?_
      iterate 2(refine Xtn ?_)
      iterate 17(first|refine Xtn ?_|refine Xsn ?_)
      refine Xtn ?_;refine Xdn fun w2 hE2 hK2=>?_;have x3:=x12.trans hK2.nil;clear k1 k3 g1 g2 g3 hE2 hK2 hd
      go_wp2_with fail
      go_ret
      exact⟨by rw[HR.out];rfl,x3⟩
    ·have hgB:goodB (lo,hi2)=false:=decide_eq_false hg;rw[hgB] at hG;have HR:=HB2 (s3 hg);clear s4 s5 HB2 HM HK
     go_wp2_with fail
     refine(hG _).out.mono ?_;rintro e w1 ⟨rfl,x2⟩;have x12:=x1.trans x2;clear hG
     go_upto_region 5 with fail
     refine Xr.start [] kr ?_;refine Xtk 0 ?_
     iterate 2(refine Xtn ?_)
     iterate 17(first|refine Xtn ?_|refine Xsn ?_)
     refine Xtn ?_;refine Xdn fun w2 hE2 hK2=>?_;have x3:=x12.trans hK2.nil;clear g1 g2 g3 hE2 hK2
     go_wp2_with fail
     go_ret
     exact⟨by rw[HR.out];rfl,x3⟩
   ·obtain rfl:i=0:=om;clear s2 HI HB;generalize l[0]=s at *;obtain⟨lo,hi2⟩:=s;simp only[Nat.zero_mul,Nat.add_zero] at g1 g2 s1 s3;have hG:=fun(W':World)=>lh (good_any (lo,hi2) W');unfold spV at hG
    simp only at hG
    by_cases hg:goodS (lo,hi2)
    ·have hgB:goodB (lo,hi2)=true:=decide_eq_true hg;rw[hgB] at hG;have HI2:=HM (s1 trivial hg);clear HB2 HM HK s1 s3
     go_wp2_with fail
     refine(hG _).out.mono ?_;rintro e w1 ⟨rfl,x2⟩;have x12:=x1.trans x2;clear hG
     go_upto_region 5 with fail
     refine Xr.start [] kr ?_;refine Xtk 0 ?_
     iterate 2(refine Xtn ?_)
     iterate 17(first|refine Xtn ?_|refine Xsn ?_)
     refine Xtn ?_;refine Xdn fun w2 hE2 hK2=>?_;have x3:=x12.trans hK2.nil;clear g1 g2 hE2 hK2
     go_wp2_with fail
     go_roundw
     case rel=>exact⟨1,by go_num,om,HI2,x3⟩
     case measure=>simp[intOf];omega
    ·have hgB:goodB (lo,hi2)=false:=decide_eq_false hg;rw[hgB] at hG;have HR:=HB2 (s3 hg);clear HB2 HM HK s1 s3
     go_wp2_with fail
     refine(hG _).out.mono ?_;rintro e w1 ⟨rfl,x2⟩;have x12:=x1.trans x2;clear hG
     go_upto_region 5 with fail
     refine Xr.start [] kr ?_;refine Xtk 0 ?_
     iterate 2(refine Xtn ?_)
     iterate 17(first|refine Xtn ?_|refine Xsn ?_)
     refine Xtn ?_;refine Xdn fun w2 hE2 hK2=>?_;have x3:=x12.trans hK2.nil;clear g1 g2 hE2 hK2
     go_wp2_with fail
     go_ret
     exact⟨by rw[HR.out];rfl,x3⟩
  ·have hI:¬(i:Int)<l.length:=om;have HR:=HK (fun j hj=>HI.out j om);clear HK HB HI;by_cases h64:64<l.length
   ·have HR2:Hid (r=4):=by show _=_;rw[HR.out,if_pos h64]
    have hI64:(64:Int)<l.length:=om;clear HR
    go_wp2
    go_ret
    exact⟨by rw[HR2.out];rfl,x1⟩
   ·have HR2:Hid (r=0):=by show _=_;rw[HR.out,if_neg h64]
    have hI64:¬(64:Int)<l.length:=om;clear HR
    go_wp2
    go_ret
    exact⟨by rw[HR2.out];rfl,x1⟩
end
section
open Go.RowKit
def InsOk (runes:Bool)(caps:Int)(n:Nat)(i:Ins):Prop:=
 (i.op=1∨i.set=[])∧(i.op=2∨i.y=0)∧(i.op=2∨i.op=3∨i.x=0)∧(i.op=4∨i.op=5∨i.n=0)∧
 (i.op=0∨(i.op=1∧validE i.set=0∧∀s,i.set.getLast? = some s→s.2≤topV runes)∨(i.op=2∧(0≤i.x∧i.x<n)∧0≤i.y∧i.y<n)∨(i.op=3∧0≤i.x∧i.x<n)∨
  (i.op=4∧0≤i.n∧i.n<2*caps)∨(i.op=5∧0≤i.n∧i.n≤5))
open Classical in
noncomputable def progE (runes:Bool) (caps:Int) (G:List Ins):Int:=
 if 8192<G.length then 4 else if G.length=0∨caps<0∨9<caps then 1 else if ∀i∈G,InsOk runes caps G.length i then
  (match G.getLast? with|some i=>if i.op=0∨i.op=2∨i.op=3 then 0 else 1|none=>1) else 1
open Classical in
noncomputable def chkE (runes:Bool) (caps:Int) (G:List Ins):Int:=
 if progE runes caps G≠0 then progE runes caps G else if ∃i∈G,i.op=5 then 10 else 0
theorem progE_big {runes:Bool}{caps:Int}{G:List Ins}(h:8192<G.length):progE runes caps G=4:=by unfold progE;rw[if_pos h]
theorem progE_arg {runes:Bool}{caps:Int}{G:List Ins}(h:¬8192<G.length)(h2:G.length=0∨caps<0∨9<caps):progE runes caps G=1:=by unfold progE;rw[if_neg h,if_pos h2]
theorem progE_bad {runes:Bool}{caps:Int}{G:List Ins}(h:¬8192<G.length)(h2:¬(G.length=0∨caps<0∨9<caps)){k:Nat}(hk:k<G.length)(h3:¬InsOk runes caps G.length G[k]):progE runes caps G=1:=by
 unfold progE;rw[if_neg h,if_neg h2,if_neg (fun h4=>h3 (h4 _ (List.getElem_mem hk)))]
theorem progE_end {runes:Bool}{caps:Int}{G:List Ins}(h:¬8192<G.length)(h2:¬(G.length=0∨caps<0∨9<caps))(h3:∀k (hk:k<G.length),InsOk runes caps G.length G[k])(hl:G.length-1<G.length) :
 progE runes caps G=if G[G.length-1].op=0∨G[G.length-1].op=2∨G[G.length-1].op=3 then 0 else 1:=by
 unfold progE;rw[if_neg h,if_neg h2,if_pos (fun i hi=>by obtain⟨k,hk,rfl⟩:=List.mem_iff_getElem.1 hi;exact h3 k hk),List.getLast?_eq_getElem?,List.getElem?_eq_getElem hl]
structure GOk (runes:Bool)(caps:Int)(G:List Ins):Prop where
 len:0<G.length∧G.length≤8192
 cap9:0≤caps∧caps≤9
 ins:∀k (hk:k<G.length),InsOk runes caps G.length G[k]
 last:∀hl:G.length-1<G.length,G[G.length-1].op=0∨G[G.length-1].op=2∨G[G.length-1].op=3
 plain:∀k (hk:k<G.length),G[k].op≠5
theorem chkE_zero {runes:Bool}{caps:Int}{G:List Ins}(h:chkE runes caps G=0):GOk runes caps G:=by
 unfold chkE at h
 split at h
 ·contradiction
 ·rename_i hp
  have hp:progE runes caps G=0:=Classical.not_not.1 hp
  split at h
  ·cases h
  ·rename_i hn
   unfold progE at hp
   split at hp
   ·cases hp
   ·split at hp
    ·cases hp
    ·split at hp
     ·rename_i h1 h2 h3
      refine⟨om,om,fun k hk=>h3 _ (List.getElem_mem hk),fun hl=>?_,fun k hk e=>hn ⟨_,List.getElem_mem hk,e⟩⟩;rw[List.getLast?_eq_getElem?,List.getElem?_eq_getElem hl] at hp
      simp only at hp
      split at hp
      ·assumption
      ·cases hp
     ·cases hp
namespace GOk
variable {runes:Bool} {caps:Int} {G:List Ins}
theorem op (h:GOk runes caps G){k:Nat}(hk:k<G.length):G[k].op=0∨G[k].op=1∨G[k].op=2∨G[k].op=3∨G[k].op=4:=by
 have h1:=(h.ins k hk).2.2.2.2;have h2:=h.plain k hk;omega
theorem next (h:GOk runes caps G){k:Nat}(hk:k<G.length)(ho:G[k].op=1∨G[k].op=4):k+1<G.length:=by
 rcases Nat.lt_or_ge (k+1) G.length with h1|h1
 ·exact h1
 ·have e:G.length-1=k:=om;have h2:=h.last om;have h3:G[G.length-1]'om=G[k]:=by congr 1
  rw[h3] at h2;omega
theorem jump (h:GOk runes caps G){k:Nat}(hk:k<G.length)(ho:G[k].op=2∨G[k].op=3):∃x:Nat,G[k].x=x∧x<G.length:=by
 have h1:=(h.ins k hk).2.2.2.2;exact⟨G[k].x.toNat,om,om⟩
theorem jump2 (h:GOk runes caps G){k:Nat}(hk:k<G.length)(ho:G[k].op=2):∃y:Nat,G[k].y=y∧y<G.length:=by
 have h1:=(h.ins k hk).2.2.2.2;exact⟨G[k].y.toNat,om,om⟩
end GOk
end
section
open Go.RowKit
structure Nd where
 op:Int
 A:Option Addr
 c:Nat
 l:List Sp
 K:Option Addr
 kc:Nat
 ks:List Value
 mn:Int
 mx:Int
 md:Int
 n:Int
 neg:Bool
def Nd.val (h:Nd):Value:=.agg #[.int .i64 h.op,.slice h.A h.l.length h.c,.slice h.K h.ks.length h.kc,.int .i64 h.mn,.int .i64 h.mx,.int .i64 h.md,.int .i64 h.n,.bool h.neg]
def Nd.cs (h:Nd):List Value:=[.int .i64 h.op,.slice h.A h.l.length h.c,.slice h.K h.ks.length h.kc,.int .i64 h.mn,.int .i64 h.mx,.int .i64 h.md,.int .i64 h.n,.bool h.neg]
def cellsOf:Value→List Value
 | .agg cs=>cs.toList
 | v=>[v]
theorem Nd.cells (h:Nd):cellsOf h.val=h.cs:=rfl
def SetOk (l:List Sp):Prop:=l.length≤2∧∀s∈l,(s.1∈[0,10,97,98,99,100,(256:Int)]∧s.2+1∈[11,97,98,99,100,(256:Int)])∧0≤s.1∧s.1≤s.2
structure NdOk (b:Nat)(h:Nd):Prop where
 op:h.op=0∨h.op=1∨h.op=2∨h.op=3∨h.op=4∨h.op=5∨h.op=11
 alt:h.op=3→2≤h.ks.length
 one:h.op=4∨h.op=5→1≤h.ks.length
 few:h.ks.length≤3
 mn:0≤h.mn∧h.mn≤b
 mx : -1≤h.mx∧h.mx≤b
 mm:h.mx = -1→h.mn+1≤b
 md:0≤h.md∧h.md≤1
 n:0≤h.n∧h.n≤9
 set:SetOk h.l
inductive TreeAt (b:Nat) (S:Nat→Prop) (w:World):Nat→Value→Prop
 | mk {d:Nat} (h:Nd):NdOk b h→SL w h.A h.c h.l→h.ks.length≤h.kc→h.kc≤maxLen→CellsAt w h.K (h.ks.flatMap cellsOf)→(∀u∈h.ks,TreeAt b S w d u)→(h.l≠[]→∀k,h.A.map (·.block)=some k→S k)→(h.ks≠[]→∀k,h.K.map (·.block)=some k→S k)→TreeAt b S w (d+1) h.val
theorem Nd.val_inj {h k:Nd}(e:h.val=k.val):h.op=k.op∧h.A=k.A∧h.l.length=k.l.length∧h.c=k.c∧h.K=k.K∧h.ks.length=k.ks.length∧h.kc=k.kc∧h.mn=k.mn∧h.mx=k.mx∧h.md=k.md∧h.n=k.n∧h.neg=k.neg:=by
 unfold Nd.val at e;simp only[Value.agg.injEq,Array.mk.injEq,List.cons.injEq,Value.int.injEq,Value.slice.injEq,Value.bool.injEq,true_and,and_true] at e;obtain⟨e1,⟨e2,e3,e4⟩,⟨e5,e6,e7⟩,e8,e9,e10,e11,e12⟩:=e;exact⟨e1,e2,e3,e4,e5,e6,e7,e8,e9,e10,e11,e12⟩
theorem CellsAt.kpZ {w w':World}{A:Option Addr}{xs:List Value}{p:Nat→Prop}(h:CellsAt w A xs)(k:KpP p w w')(hn:∀b,A.map (·.block)=some b→¬p b):CellsAt w' A xs:=fun hx=>by
 obtain⟨b,o,rfl,hc⟩:=h hx;refine⟨b,o,rfl,fun i hi=>?_⟩;have h1:=hc i hi;rw[World.cell?_of_block (w:=w) (k.block b (World.block_lt_of_cell? _ _ h1) (hn b rfl))];exact h1
theorem SL.kpZ {w w':World}{A:Option Addr}{c:Nat}{l:List Sp}{p:Nat→Prop}(h:SL w A c l)(k:KpP p w w')(hn:l≠[]→∀b,A.map (·.block)=some b→¬p b):SL w' A c l:=by
 refine⟨h.le,h.cap,h.rng,fun hx=>?_⟩;obtain⟨b,o,rfl,hc⟩:=h.at_ hx;refine⟨b,o,rfl,fun i hi=>?_⟩;have h1:=hc i hi;have hb:=k.block b (World.block_lt_of_cell? _ _ h1.1) (hn hx b rfl);exact⟨by rw[World.cell?_of_block (w:=w) hb];exact h1.1,by rw[World.cell?_of_block (w:=w) hb];exact h1.2⟩
namespace TreeAt
variable {b:Nat} {S S':Nat→Prop} {w w':World} {d:Nat} {v:Value}
theorem ext (h:TreeAt b S w d v)(x:Ext w w'):TreeAt b S w' d v:=by
 induction h with
 | mk h h1 h2 h3 h4 h5 _ h7 h8 ih=>exact .mk h h1 (h2.ext x) h3 h4 (h5.ext x) ih h7 h8
theorem kp {q:Nat→Prop}(h:TreeAt b S w d v)(k:KpP q w w')(hq:∀i,q i→¬S i):TreeAt b S w' d v:=by
 induction h with
 | mk h h1 h2 h3 h4 h5 _ h7 h8 ih=>
  refine .mk h h1 (h2.kpZ k (fun hn i hi hqi=>hq i hqi (h7 hn i hi))) h3 h4 ?_ ih h7 h8;intro hx;have hn:h.ks≠[]:=by intro e;rw[e] at hx;exact hx rfl
  exact(h5.kpZ k (fun i hi hqi=>hq i hqi (h8 hn i hi))) hx
theorem mono (h:TreeAt b S w d v):∀{e:Nat},d≤e→TreeAt b S w e v:=by
 induction h with
 | mk h h1 h2 h3 h4 h5 _ h7 h8 ih=>
  intro e he;obtain⟨e,rfl⟩:∃k,e=k+1:=⟨e-1,om⟩;exact .mk h h1 h2 h3 h4 h5 (fun u hu=>ih u hu om) h7 h8
theorem node (h:TreeAt b S w (d+1) v):∃n:Nd,v=n.val∧NdOk b n∧SL w n.A n.c n.l∧n.ks.length≤n.kc∧n.kc≤maxLen∧CellsAt w n.K (n.ks.flatMap cellsOf)∧∀u∈n.ks,TreeAt b S w d u:=by
 cases h with
 | mk n h1 h2 h3 h4 h5 h6=>exact⟨n,rfl,h1,h2,h3,h4,h5,h6⟩
theorem pos (h:TreeAt b S w d v):∃e,d=e+1:=by cases h with|mk=>exact⟨_,rfl⟩
theorem len8 (h:TreeAt b S w d v):(cellsOf v).length=8:=by cases h with|mk=>rfl
theorem imp (h:TreeAt b S w d v)(hS:∀k,S k→k<w.heap.size→S' k):TreeAt b S' w d v:=by
 induction h with
 | mk h h1 h2 h3 h4 h5 h6 h7 h8 ih=>
  refine .mk h h1 h2 h3 h4 h5 ih (fun hn k hk=>hS k (h7 hn k hk) (h2.blt hn hk)) (fun hn k hk=>hS k (h8 hn k hk) ?_);have hne:h.ks.flatMap cellsOf≠[]:=by
   intro e;obtain⟨u,hu⟩:=List.exists_mem_of_ne_nil _ hn;have h9:=(h6 u hu).len8;have h10:cellsOf u=[]:=by
    rw[List.flatMap_eq_nil_iff] at e;exact e u hu
   rw[h10] at h9;simp at h9
  obtain⟨bb,o,hA,hc⟩:=h5 hne;rw[hA] at hk;have:bb=k:=by simpa using hk
  subst this;exact World.block_lt_of_cell? _ _ (hc 0 (List.length_pos_iff.2 hne))
end TreeAt
theorem kid_cells {bd:Nat}{S:Nat→Prop}{w:World}{d:Nat}{K:Option Addr}{ks:List Value}(hc:CellsAt w K (ks.flatMap cellsOf))(ht:∀u∈ks,TreeAt bd S w d u){i:Nat}(hi:i<ks.length) :
 ∃b o,K=some ⟨b,o,none⟩∧∃n:Nd,ks[i]=n.val∧∀j (hj:j<8),w.cell? ⟨b,o+i*8+j,none⟩=n.cs[j]?:=by
 have len8:∀u∈ks,(cellsOf u).length=8:=fun u hu=>by
  obtain⟨e,rfl⟩:=(ht u hu).pos;obtain⟨n,rfl,_⟩:=(ht u hu).node
  rfl
 have hlen:∀l:List Value,(∀u∈l,(cellsOf u).length=8)→(l.flatMap cellsOf).length=l.length*8:=by
  intro l h;induction l with
  | nil=>rfl
  | cons y l ih=>rw[List.flatMap_cons,List.length_append,h y si,ih (fun u hu=>h u (by simp[hu])),List.length_cons];omega
 have hne:ks.flatMap cellsOf≠[]:=by
  intro e;have:=hlen ks len8;rw[e] at this;simp at this;omega
 obtain⟨b,o,rfl,hcell⟩:=hc hne;obtain⟨e,rfl⟩:=(ht _ (List.getElem_mem hi)).pos;obtain⟨n,hn,_⟩:=(ht _ (List.getElem_mem hi)).node;refine⟨b,o,rfl,n,hn,fun j hj=>?_⟩;have get:∀(l:List Value) (i:Nat) (hi:i<l.length),(∀u∈l,(cellsOf u).length=8)→(l.flatMap cellsOf)[i*8+j]? = (cellsOf l[i])[j]?:=by
  intro l;induction l with
  | nil=>intro i hi;simp at hi
  | cons y l ih=>
   intro i hi h;rw[List.flatMap_cons]
   cases i with
   | zero=>rw[List.getElem?_append_left (by rw[h y si];omega)];simp
   | succ i=>
    rw[List.getElem?_append_right (by rw[h y si];omega),h y si];have e1:(i+1)*8+j-8=i*8+j:=om;rw[e1,ih i (by simpa using hi) (fun u hu=>h u (by simp[hu]))]
    simp
 have hlt:i*8+j<(ks.flatMap cellsOf).length:=by rw[hlen ks len8];omega
 have h1:=hcell (i*8+j) hlt;rw[Nat.add_assoc,h1,←List.getElem?_eq_getElem hlt,get ks i hi len8,hn,Nd.cells]
def setRe (w:World)(g:Nat)(n:Nd):World:=
 ((((((((w.setCell ⟨g,0,none⟩ (.int .i64 n.op)).setCell ⟨g,1,none⟩ (.slice n.A n.l.length n.c)).setCell ⟨g,2,none⟩ (.slice n.K n.ks.length n.kc)).setCell ⟨g,3,none⟩ (.int .i64 n.mn)).setCell ⟨g,4,none⟩ (.int .i64 n.mx)).setCell ⟨g,5,none⟩ (.int .i64 n.md)).setCell ⟨g,6,none⟩ (.int .i64 n.n)).setCell ⟨g,7,none⟩ (.bool n.neg))
theorem setRe_blk {w:World}{g T:Nat}{a0 a1 a2 a3 a4 a5 a6 a7:Value}(h:Blk w g T #[a0,a1,a2,a3,a4,a5,a6,a7])(n:Nd):Blk (setRe w g n) g T n.cs.toArray:=by
 have b:=(((((((h.set 0 (.int .i64 n.op)).set 1 (.slice n.A n.l.length n.c)).set 2 (.slice n.K n.ks.length n.kc)).set 3 (.int .i64 n.mn)).set 4 (.int .i64 n.mx)).set 5 (.int .i64 n.md)).set 6 (.int .i64 n.n)).set 7 (.bool n.neg)
 simpa[Nd.cs,setRe] using b
theorem setRe_kp {p:Nat→Prop}{a w:World}{g:Nat}(h:KpP p a w)(hg:p g∨a.heap.size≤g)(n:Nd):KpP p a (setRe w g n):=
 ((((((((h.set (x:=⟨g,0,none⟩) hg _).set (x:=⟨g,1,none⟩) hg _).set (x:=⟨g,2,none⟩) hg _).set (x:=⟨g,3,none⟩) hg _).set (x:=⟨g,4,none⟩) hg _).set (x:=⟨g,5,none⟩) hg _).set (x:=⟨g,6,none⟩) hg _).set (x:=⟨g,7,none⟩) hg _)
theorem setRe_ext {a w:World}{g:Nat}(h:Ext a w)(hg:a.heap.size≤g)(n:Nd):Ext a (setRe w g n):=
 ((((((((h.setNew (p:=⟨g,0,none⟩) hg _).setNew (p:=⟨g,1,none⟩) hg _).setNew (p:=⟨g,2,none⟩) hg _).setNew (p:=⟨g,3,none⟩) hg _).setNew (p:=⟨g,4,none⟩) hg _).setNew (p:=⟨g,5,none⟩) hg _).setNew (p:=⟨g,6,none⟩) hg _).setNew (p:=⟨g,7,none⟩) hg _)
theorem nd_cells {w:World}{g T:Nat}{n:Nd}(h:Blk w g T n.cs.toArray):w.cell? ⟨g,0,none⟩=some (.int .i64 n.op)∧w.cell? ⟨g,1,none⟩=some (.slice n.A n.l.length n.c)∧w.cell? ⟨g,2,none⟩=some (.slice n.K n.ks.length n.kc)∧w.cell? ⟨g,3,none⟩=some (.int .i64 n.mn)∧
 w.cell? ⟨g,4,none⟩=some (.int .i64 n.mx)∧w.cell? ⟨g,5,none⟩=some (.int .i64 n.md)∧w.cell? ⟨g,6,none⟩=some (.int .i64 n.n)∧w.cell? ⟨g,7,none⟩=some (.bool n.neg):=
 ⟨h.cell 0,h.cell 1,h.cell 2,h.cell 3,h.cell 4,h.cell 5,h.cell 6,h.cell 7⟩
theorem nd_frz {w:World}{g T:Nat}{cs:Array Value}(h:Blk w g T cs):w.frozen? ⟨g,0,none⟩=false∧w.frozen? ⟨g,1,none⟩=false∧w.frozen? ⟨g,2,none⟩=false∧w.frozen? ⟨g,3,none⟩=false∧w.frozen? ⟨g,4,none⟩=false∧w.frozen? ⟨g,5,none⟩=false∧w.frozen? ⟨g,6,none⟩=false∧w.frozen? ⟨g,7,none⟩=false:=
 ⟨h.frz 0,h.frz 1,h.frz 2,h.frz 3,h.frz 4,h.frz 5,h.frz 6,h.frz 7⟩
end
end Go.Proofs.YtmocoldobnimfaaGreat
