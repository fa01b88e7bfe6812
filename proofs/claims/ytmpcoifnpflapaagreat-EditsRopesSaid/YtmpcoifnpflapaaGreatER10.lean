/- Texts of this proof: G3 G4. -/
import Derived.Test.YtmpcoifnpflapaaGreatER06
import Derived.Test.YtmpcoifnpflapaaGreatER07
set_option linter.all false
set_option maxRecDepth 100000
set_option maxHeartbeats 4000000
namespace Go.Proofs.YtmpcoifnpflapaaGreat
section
open Go.RowKit
theorem sValid_any (A:Option Addr)(c:Nat)(l:List Sp)(w:World)(hl:SL w A c l):Calls Tryz.prog 132 #[.slice A l.length c] w (RetV (.int .i64 (validE l)) w):=by
 have hlen:=hl.len;have HB:=fun i hi h=>lh (validE_bad (l:=l) (i:=i) hi h);have HK:=fun h=>lh (validE_ok (l:=l) h);generalize validE l=r at *;go_enter Tryz.func132,Tryz.ntmps132
 go_wp2
 go_loopw [7] (fun v wr=>∃i:Nat,v=.int .i64 i/\i<=l.length/\Hid (∀j,j<i->okAt l j)/\Ext w wr) (fun v _=>l.length-(intOf v).toNat)
 case atStart=>exact⟨0,rfl,om,fun j hj=>absurd hj (Nat.not_lt_zero _),Ext.rfl' _⟩
 case round=>
  obtain⟨i,rfl,hi,HI,x1⟩:=hrel;by_cases hlt:i<l.length
  ·obtain⟨s1,s2,s3⟩:=okStep hlt HI.out;have HB2:=HB i hlt;have HM:=fun h=>lh (okMore HI.out h);obtain⟨b,o,rfl,g1,g2⟩:=(hl.ext x1).get hlt;have h64:=hl.wf hlt;have hI:(i:Int)<l.length:=om;by_cases h0:0<i
   ·obtain⟨p,hp,hpg,s4,s5⟩:=s2 h0;have h1l:i-1<l.length:=om;rw[List.getElem?_eq_getElem h1l] at hp;injection hp with hp
    obtain⟨b2,o2,hA2,g4,g3⟩:=(hl.ext x1).get h1l;obtain⟨rfl,rfl⟩:b=b2/\o=o2:=by injection hA2 with h1;injection h1 with h2 h3 h4;exact⟨h2,h3⟩
    rw[hp] at g3;clear s1 s2 hA2 hp g4 h1l HI HB;obtain⟨k,rfl⟩:∃k,i=k+1:=⟨i-1,om⟩;simp only[Nat.add_sub_cancel] at g3;generalize l[k+1]=s at *;obtain⟨lo,hi2⟩:=s;obtain⟨plo,phi⟩:=p
    simp only at g1 g2 g3 s4 s5 hpg
    have hG:=fun(W':World)=>lh (right_any (lo,hi2) W');unfold spV at hG
    simp only at hG
    have hphi:0<=phi/\phi<=1114111:=by unfold goodS at hpg;simp only at hpg;omega
    have hki:(0:Int)<(k:Int)+1:=om;have hwk:IntKind.i64.wrap ((k:Int)+1-1)=(k:Int):=wj;have hwk2:IntKind.i64.wrap (k:Int)=(k:Int):=wj;have hk0:(0:Int)<=(k:Int)+1:=om;have hk1:(k:Int)+1<(l.length:Int):=om;have hk2:(k:Int)<(l.length:Int):=om;have hto:((k:Int)+1).toNat=k+1:=om;have hwd:IntKind.i64.wrap (phi+2)=phi+2:=wj;obtain⟨b1,xa⟩:=alloc1 wr 24 #[.int .i64 lo,.int .i64 hi2];have x2:=x1.trans xa;have g3a:=xa.cell g3;obtain⟨p0,p1,_,_,pz⟩:=b1.c2
    go_upto_region 4 with fail
    obtain⟨gs,hgs⟩:∃gs,gs=wr.heap.size:=⟨_,rfl⟩
    rw[<-hgs] at b1 p0 p1 pz ⊢;generalize wr.alloc (.cells #[.int .i64 lo,.int .i64 hi2] 24)=wa at *;have k0:=kc0 p0;have k1:=kc0 p1;have k3:=kc0 g3a;clear xa hgs;by_cases hg:goodS (lo,hi2)
    ·have hgB:goodB (lo,hi2)=true:=decide_eq_true hg;rw[hgB] at hG;by_cases hp:phi+2<=lo
     ·have hd:¬lo<phi+2:=om;have HE:=HM (s4 hg om);clear s3 s4 s5 HB2 HM HK hp;refine Xr.start [] kr ?_;refine Xtk 0 ?_;refine Xcl 1 fun w2 hE2 hK2 K hKK=>?_;go_simp;refine(hG _).out.mono ?_;rintro e w3 ⟨rfl,x3⟩;refine hKK _ _ x3 ?_;clear hKK hG;refine ptm ?_;refine Xtk 2 ?_;refine Xtn ?_
      iterate 14(first|refine Xtn ?_|refine Xsn ?_)
      refine Xtn ?_;refine Xdn fun w4 hE4 hK4=>?_;have x4:=x2.trans hK4.nil;clear k0 k1 k3 p0 p1 g1 g2 g3 g3a hd hE2 hK2 x3 hE4 hK4 b1
      go_wp2_with fail
      go_roundw
      case rel=>exact⟨k+1+1,by go_num,om,HE,x4⟩
      case measure=>simp[intOf];omega
     ·have hd:lo<phi+2:=om;have HE:=HB2 (s5 om);clear s3 s4 s5 HB2 HM HK hp;refine Xr.start [] kr ?_;refine Xtk 0 ?_;refine Xcl 1 fun w2 hE2 hK2 K hKK=>?_;go_simp;refine(hG _).out.mono ?_;rintro e w3 ⟨rfl,x3⟩;refine hKK _ _ x3 ?_;clear hKK hG;refine ptm ?_;refine Xtk 2 ?_;refine Xtn ?_
      iterate 14(first|refine Xtn ?_|refine Xsn ?_)
      refine Xtn ?_;refine Xdn fun w4 hE4 hK4=>?_;have x4:=x2.trans hK4.nil;clear k0 k1 k3 p0 p1 g1 g2 g3 g3a hd hE2 hK2 x3 hE4 hK4 b1
      go_wp2_with fail
      go_ret
      exact⟨by rw[HE.out];rfl,x4⟩
    ·have hgB:goodB (lo,hi2)=false:=decide_eq_false hg;rw[hgB] at hG;have HE:=HB2 (s3 hg);clear s3 s4 s5 HB2 HM HK;refine Xr.start [] kr ?_;refine Xtk 0 ?_;refine Xcl 1 fun w2 hE2 hK2 K hKK=>?_;go_simp;refine(hG _).out.mono ?_;rintro e w3 ⟨rfl,x3⟩;refine hKK _ _ x3 ?_;clear hKK hG;refine ptm ?_;refine Xtk 2 ?_;refine Xtn ?_
     iterate 14(first|refine Xtn ?_|refine Xsn ?_)
     refine Xtn ?_;refine Xdn fun w4 hE4 hK4=>?_;have x4:=x2.trans hK4.nil;clear k0 k1 k3 p0 p1 g1 g2 g3 g3a hE2 hK2 x3 hE4 hK4 b1
     go_wp2_with fail
     go_ret
     exact⟨by rw[HE.out];rfl,x4⟩
   ·obtain rfl:i=0:=om;clear s2 HI HB;generalize l[0]=s at *;obtain⟨lo,hi2⟩:=s;simp only[Nat.zero_mul,Nat.add_zero] at g1 g2 s1 s3;have hG:=fun(W':World)=>lh (right_any (lo,hi2) W');unfold spV at hG
    simp only at hG
    obtain⟨b1,xa⟩:=alloc1 wr 24 #[.int .i64 lo,.int .i64 hi2];have x2:=x1.trans xa;obtain⟨p0,p1,_,_,pz⟩:=b1.c2
    go_upto_region 4 with fail
    obtain⟨gs,hgs⟩:∃gs,gs=wr.heap.size:=⟨_,rfl⟩
    rw[<-hgs] at b1 p0 p1 pz ⊢;generalize wr.alloc (.cells #[.int .i64 lo,.int .i64 hi2] 24)=wa at *;have k0:=kc0 p0;have k1:=kc0 p1;clear xa hgs;by_cases hg:goodS (lo,hi2)
    ·have hgB:goodB (lo,hi2)=true:=decide_eq_true hg;rw[hgB] at hG;have HE:=HM (s1 trivial hg);clear HB2 HM HK s1 s3;refine Xr.start [] kr ?_;refine Xtk 0 ?_;refine Xcl 1 fun w2 hE2 hK2 K hKK=>?_;go_simp;refine(hG _).out.mono ?_;rintro e w3 ⟨rfl,x3⟩;refine hKK _ _ x3 ?_;clear hKK hG;refine ptm ?_;refine Xtk 2 ?_;refine Xtn ?_
     iterate 14(first|refine Xtn ?_|refine Xsn ?_)
     refine Xtn ?_;refine Xdn fun w4 hE4 hK4=>?_;have x4:=x2.trans hK4.nil;clear k0 k1 p0 p1 g1 g2 hE2 hK2 x3 hE4 hK4 b1
     go_wp2_with fail
     go_roundw
     case rel=>exact⟨1,by go_num,om,HE,x4⟩
     case measure=>simp[intOf];omega
    ·have hgB:goodB (lo,hi2)=false:=decide_eq_false hg;rw[hgB] at hG;have HE:=HB2 (s3 hg);clear HB2 HM HK s1 s3;refine Xr.start [] kr ?_;refine Xtk 0 ?_;refine Xcl 1 fun w2 hE2 hK2 K hKK=>?_;go_simp;refine(hG _).out.mono ?_;rintro e w3 ⟨rfl,x3⟩;refine hKK _ _ x3 ?_;clear hKK hG;refine ptm ?_;refine Xtk 2 ?_;refine Xtn ?_
     iterate 14(first|refine Xtn ?_|refine Xsn ?_)
     refine Xtn ?_;refine Xdn fun w4 hE4 hK4=>?_;have x4:=x2.trans hK4.nil;clear k0 k1 p0 p1 g1 g2 hE2 hK2 x3 hE4 hK4 b1
     go_wp2_with fail
     go_ret
     exact⟨by rw[HE.out];rfl,x4⟩
  ·have hI:¬(i:Int)<l.length:=om;have HR:=HK (fun j hj=>HI.out j om);clear HK HB HI;by_cases h64:64<l.length
   ·have HR2:Hid (r=4):=by show _=_;rw[HR.out,if_pos h64]
    have hI64:(64:Int)<l.length:=om;clear HR
    go_wp2
    go_ret
    exact⟨by rw[HR2.out];rfl,x1⟩
   ·have HR2:Hid (r=0):=by show _=_;rw[HR.out,if_neg h64]
    have hI64:¬(64:Int)<l.length:=om;clear HR
    go_wp2
    go_ret
    exact⟨by rw[HR2.out];rfl,x1⟩
end
end Go.Proofs.YtmpcoifnpflapaaGreat
