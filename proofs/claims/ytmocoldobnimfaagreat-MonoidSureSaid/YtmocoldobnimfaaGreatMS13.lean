/- Texts of this proof: K9 K10. -/
import Derived.Test.YtmocoldobnimfaaGreatMS08
import Derived.Test.YtmocoldobnimfaaGreatMS10
set_option linter.all false
set_option maxRecDepth 100000
set_option maxHeartbeats 16000000
namespace Go.Proofs.YtmocoldobnimfaaGreat
section
open Go.RowKit
attribute [local go_sem ↓] Go.wp_at_zero Go.wp_at_succ
theorem ok1 {runes:Bool}{caps:Int}{n:Nat}{zl:List Sp}:WN runes caps n ⟨1,0,0,0,zl⟩<->QG zl=0/\∀s,zl.getLast? = some s->s.2<=Wj runes:=by
 constructor
 ·intro h;rcases h.2.2.2.2 with h|⟨_,h,h'⟩|⟨h,_⟩|⟨h,_⟩|⟨h,_⟩|⟨h,_⟩
  ·simp at h
  ·exact⟨h,h'⟩
  ·simp at h
  ·simp at h
  ·simp at h
  ·simp at h
 ·exact fun h=>⟨.inl rfl,.inr rfl,.inr (.inr rfl),.inr (.inr rfl),.inr (.inl ⟨rfl,h⟩)⟩
theorem OO (w:World)(T1 T2:TypeId)(cs1 cs2:Array Value)(k:Nat)(v:Value)(h:cs2[k]? = some v):((w.alloc (.cells cs1 T1)).alloc (.cells cs2 T2)).cell? ⟨w.heap.size+1,k,none⟩=some v:=by
 have h1:=(Blk.new (w.alloc (.cells cs1 T1)) T2 cs2).cell k;rw[World.size_alloc] at h1;rw[h1];exact h
theorem Mx {P:Prop} (h:P:=by
 go_enter Tryz.func161,Tryz.ntmps161
 go_wp2_with fail
 refine HV2.out.mono ?_;rintro e w1 ⟨rfl,x1⟩;have s4:=x1.cell (OO w _ _ _ _ 4 _ rfl);have g2:=x1.cell g1'
 go_wp2_with fail
 go_ret
 exact⟨rfl,eX.trans x1⟩):P:=h
theorem MB {P:Prop} (h:P:=by
 go_enter Tryz.func161,Tryz.ntmps161
 go_wp2_with fail
 refine HV2.out.mono ?_;rintro e w1 ⟨rfl,x1⟩;have s4:=x1.cell (OO w _ _ _ _ 4 _ rfl)
 go_wp2_with fail
 go_ret
 exact⟨rfl,eX.trans x1⟩):P:=h
theorem SI {P:Prop} (h:P:=by
 go_enter Tryz.func161,Tryz.ntmps161
 go_wp2_with fail
 go_ret
 exact⟨rfl,(Ext.alloc _ _).trans (Ext.alloc _ _)⟩):P:=h
theorem IU (gA:Option Addr)(n gc:Nat)(runes:Bool)(caps:Int)(zx zy zn:Int)(A:Option Addr)(c:Nat)(zl:List Sp)(w:World)(hL:SL w A c zl) :
 Calls Tryz.prog 161 #[QN gA n gc caps runes,VO 1 zx zy zn A zl.length c] w (QD (.bool (okB runes caps n ⟨1,zx,zy,zn,zl⟩)) w):=by
 unfold QN VO;have hlen:=hL.len;by_cases hy0:zy=0
 ·subst hy0;by_cases hx0:zx=0
  ·subst hx0;by_cases hn0:zn=0
   ·subst hn0;have HV:=fun(W:World) (h:SL W A c zl)=>lh (AW A c zl W h);by_cases hv:QG zl=0
    ·rw[hv] at HV;rcases List.eq_nil_or_concat zl with rfl|⟨u,p,rfl⟩
     ·rw[JK];rotate_left
      ·exact ok1.2 ⟨hv,by simp⟩
      clear hv hlen;have eX:=(Ext.alloc w (.cells #[.slice gA n gc,.int .i64 caps,.bool runes] 33)).trans (Ext.alloc _ (.cells #[.int .i64 1,.int .i64 0,.int .i64 0,.int .i64 0,.slice A 0 c] 123));have HV2:=HV _ (hL.ext eX);clear HV;rw[show([]:List Sp).length=0 from rfl] at *;cases runes
      ·exact MB
      ·exact MB
     ·obtain⟨lb,lo,rfl,g00,g1⟩:=hL.get (k:=u.length) si;have hp:(u.concat p)[u.length]'si=p:=by simp
      rw[hp] at g1;have hl1:(u.concat p).length=u.length+1:=by simp
      have HLN:=lh hl1;have HOK:(p.2<=Wj runes->okB runes caps n ⟨1,0,0,0,u.concat p⟩=true)/\(¬p.2<=Wj runes->okB runes caps n ⟨1,0,0,0,u.concat p⟩=false):=by
       have e:(u.concat p).getLast? = some p:=by rw[List.concat_eq_append];simp
       refine⟨fun h=>JK (ok1.2 ⟨hv,fun s hs=>?_⟩),fun h=>ZX (fun h2=>h ((ok1.1 h2).2 p e))⟩;rw[e] at hs;injection hs with hs;rw[<-hs];exact h
      have eX:=(Ext.alloc w (.cells #[.slice gA n gc,.int .i64 caps,.bool runes] 33)).trans (Ext.alloc _ (.cells #[.int .i64 1,.int .i64 0,.int .i64 0,.int .i64 0,.slice (some ⟨lb,lo,none⟩) (u.concat p).length c] 123));have HV2:=HV _ (hL.ext eX);clear HV hp hv hL g00;rw[HLN.out] at hlen HV2 eX ⊢;clear hl1 HLN;obtain⟨B,hB⟩:∃B,B=okB runes caps n ⟨1,0,0,0,u.concat p⟩:=⟨_,rfl⟩
      rw[<-hB] at HOK ⊢;clear hB;generalize u.length=m at *;have hwm:IntKind.i64.wrap ((m:Int)+1-1)=(m:Int):=wj;have hwm2:IntKind.i64.wrap (m:Int)=(m:Int):=wj;have hm1:(m:Int)<(m:Int)+1:=om;have hm0:((m:Int)+1 == 0)=false:=by rw[beq_eq_false_iff_ne];omega
      obtain⟨p1,p2⟩:=p
      simp only at g1 HOK
      have g1':=eX.cell g1;cases runes
      ·have ht:Wj false=255:=rfl;rw[ht] at HOK;by_cases hq:p2<=255
       ·rw[HOK.1 hq];clear HOK ht;exact Mx
       ·rw[HOK.2 hq];clear HOK ht;have hq2:=decide_eq_false hq;clear hq;exact Mx
      ·have ht:Wj true=1114111:=rfl;rw[ht] at HOK;by_cases hq:p2<=1114111
       ·rw[HOK.1 hq];clear HOK ht;exact Mx
       ·rw[HOK.2 hq];clear HOK ht;have hq2:=decide_eq_false hq;clear hq;exact Mx
    ·rw[ZX];rotate_left
     ·exact fun h=>hv (ok1.1 h).1
     have hv2:(QG zl == 0)=false:=by rw[beq_eq_false_iff_ne];exact hv
     generalize QG zl=vE at *;have eX:=(Ext.alloc w (.cells #[.slice gA n gc,.int .i64 caps,.bool runes] 33)).trans (Ext.alloc _ (.cells #[.int .i64 1,.int .i64 0,.int .i64 0,.int .i64 0,.slice A zl.length c] 123));have HV2:=HV _ (hL.ext eX);clear HV hv;cases runes
     ·exact MB
     ·exact MB
   ·have hbn:(zn != 0)=true:=by simp[hn0]
    rw[ZX];rotate_left
    ·exact fun h=>by have h3:=h.2.2.2.1;simp only at h3;omega
    exact SI
  ·have hbx:(zx != 0)=true:=by simp[hx0]
   rw[ZX];rotate_left
   ·exact fun h=>by have h3:=h.2.2.1;simp only at h3;omega
   exact SI
 ·have hby:(zy != 0)=true:=by simp[hy0]
  rw[ZX];rotate_left
  ·exact fun h=>by have h3:=h.2.1;simp only at h3;omega
  exact SI
theorem MC (gA:Option Addr)(n gc:Nat)(hn:n<=1000000)(runes:Bool)(caps:Int)(hcaps:0<=caps/\caps<=9)(zo zx zy zn:Int)(A:Option Addr)(c:Nat)(zl:List Sp)(w:World)(hL:SL w A c zl)(hw:I64 zx/\I64 zy/\I64 zn) :
 Calls Tryz.prog 161 #[QN gA n gc caps runes,VO zo zx zy zn A zl.length c] w (QD (.bool (okB runes caps n ⟨zo,zx,zy,zn,zl⟩)) w):=by
 by_cases h0:zo=0
 ·subst h0;exact IG gA n gc hn runes caps hcaps zx zy zn A c zl w hL hw
 by_cases h1:zo=1
 ·subst h1;exact IU gA n gc runes caps zx zy zn A c zl w hL
 by_cases h2:zo=2
 ·subst h2;exact IM gA n gc hn runes caps hcaps zx zy zn A c zl w hL hw
 by_cases h3:zo=3
 ·subst h3;exact QJw gA n gc hn runes caps hcaps zx zy zn A c zl w hL hw
 by_cases h4:zo=4
 ·subst h4;exact IP gA n gc hn runes caps hcaps zx zy zn A c zl w hL hw
 by_cases h5:zo=5
 ·subst h5;exact IR gA n gc hn runes caps hcaps zx zy zn A c zl w hL hw
 exact IT gA n gc hn runes caps hcaps zo zx zy zn A c zl w hL hw ⟨h0,h1,h2,h3,h4,h5⟩
theorem AV {runes:Bool}{caps:Int}{hs:List Hin}(h:¬8192<hs.length)(h2:¬(hs.length=0\/caps<0\/9<caps)){k:Nat}(hk:k<hs.length)(h3:¬WN runes caps hs.length hs[k].ins):WG runes caps (QW hs)=1:=by
 have hil:=Qw hs;refine Ok (k:=k) om om om ?_;simp only[WM,Qw];exact h3
theorem AX {runes:Bool}{caps:Int}{hs:List Hin}(h:¬8192<hs.length)(h2:¬(hs.length=0\/caps<0\/9<caps))(h3:∀k (hk:k<hs.length),WN runes caps hs.length hs[k].ins)(hl:hs.length-1<hs.length) :
 WG runes caps (QW hs)=if hs[hs.length-1].op=0\/hs[hs.length-1].op=2\/hs[hs.length-1].op=3 then 0 else 1:=by
 have hil:=Qw hs;have h1:=Ov (runes:=runes) (caps:=caps) (G:=QW hs) om om (fun k hk=>by
  simp only[WM,Qw];exact h3 k om) om
 rw[h1];simp only[WM,Qw,Hin.ins]
theorem MD {P:Prop} (h:P:=by
 clear hil;go_enter Tryz.func123,Tryz.ntmps123
 go_wp2_with fail
 go_ret
 exact⟨rfl,eG⟩):P:=h
theorem ME (gA:Option Addr)(gc:Nat)(hs:List Hin)(runes:Bool)(caps:Int)(w:World)(hP:PL w gA gc hs) :
 Calls Tryz.prog 123 #[QN gA hs.length gc caps runes] w (QD (.int .i64 (WG runes caps (QW hs))) w):=by
 have hcap:=hP.len;have bG:=Blk.new w 33 #[.slice gA hs.length gc,.int .i64 caps,.bool runes];have eG:=Ext.alloc w (.cells #[.slice gA hs.length gc,.int .i64 caps,.bool runes] 33);have hil:=Qw hs;unfold QN;by_cases hbig:8192<hs.length
 ·rw[vq (by rw[hil];exact hbig)];have hbI:(8192:Int)<hs.length:=om;exact MD
 ·have hbI:¬(8192:Int)<hs.length:=om;by_cases hn0:hs.length=0
  ·rw[Xq (by rw[hil];omega) (.inl (by rw[hil];exact hn0))];rw[hn0];clear hil hbig hbI hP hcap bG eG hn0;go_enter Tryz.func123,Tryz.ntmps123
   go_wp2_with fail
   go_ret
   exact⟨rfl,Ext.alloc _ _⟩
  ·have hnb:((hs.length:Int) == 0)=false:=by rw[beq_eq_false_iff_ne];omega
   by_cases hc0:caps<0
   ·rw[Xq (by rw[hil];omega) (.inr (.inl hc0))];exact MD
   ·by_cases hc9:9<caps
    ·rw[Xq (by rw[hil];omega) (.inr (.inr hc9))];exact MD
    ·clear hil;have hpos:0<hs.length:=om;have HBAD:=fun(k:Nat) (hk:k<hs.length) (h:¬WN runes caps hs.length hs[k].ins)=>lh (AV (runes:=runes) (caps:=caps) (hs:=hs) hbig om hk h);have HEND:=fun(h:∀k (hk:k<hs.length),WN runes caps hs.length hs[k].ins)=>lh (AX (runes:=runes) (caps:=caps) (hs:=hs) hbig om h om);obtain⟨E,hE⟩:∃E,E=WG runes caps (QW hs):=⟨_,rfl⟩
     rw[<-hE] at HBAD HEND ⊢;clear hE;have hnb2:=lh hnb;go_enter Tryz.func123,Tryz.ntmps123
     go_upto_region 6 with fail
     clear hnb;have hP0:=hP.ext eG;generalize w.alloc (.cells #[.slice gA hs.length gc,.int .i64 caps,.bool runes] 33)=w0 at *
     go_loopw [3] (fun v wr=>∃k:Nat,v=.int .i64 k/\k<=hs.length/\Hid (∀j (hj:j<hs.length),j<k->WN runes caps hs.length hs[j].ins)/\Ext w0 wr) (fun v _=>hs.length-(intOf v).toNat)
     case atStart=>exact⟨0,rfl,om,lh (fun j _ h=>om),Ext.rfl' _⟩
     case round=>
      obtain⟨k,rfl,hk,hok,x1⟩:=hrel;have bG1:=bG.ext x1;obtain⟨r0,r1,r2,r0f,r1f,r2f,rz⟩:=bG1.c3;by_cases hlt:k<hs.length
      ·have hkI:(k:Int)<hs.length:=om;obtain⟨pb,po,rfl,c0,c1,c2,c3,c4⟩:=(hP0.ext x1).get hlt;have hsl:=(hP0.ext x1).sl _ (List.getElem_mem hlt);have hwf:=(hP0.ext x1).rng _ (List.getElem_mem hlt);have HB:=fun h=>(HBAD k hlt h);have HOK:=fun(h:WN runes caps hs.length hs[k].ins)=>lh (show ∀j (hj:j<hs.length),j<k+1->WN runes caps hs.length hs[j].ins from fun j hj hjk=>by
        rcases Nat.lt_or_ge j k with h1|h1
        ·exact hok.out j hj h1
        ·have:j=k:=om;subst this;exact h)
       generalize hs[k]=hh at *;obtain⟨zop,zx,zy,zn,zA,zc,zl⟩:=hh;obtain⟨_,hw2,hw3,hw4⟩:=hwf
       simp only at c0 c1 c2 c3 c4 hsl hw2 hw3 hw4
       simp only[Hin.ins] at HB HOK;have HF:=fun(w':World) (h:Ext wr w')=>lh (MC (some ⟨pb,po,none⟩) hs.length gc om runes caps ⟨om,om⟩ zop zx zy zn zA zc zl w' (hsl.ext h) ⟨hw2,hw3,hw4⟩);unfold QN VO at HF;have k0:=kc0 r0;have k1:=kc0 r1;have k2:=kc0 r2;have k3:=kc0 c0;have k4:=kc0 c1;have k5:=kc0 c2;have k6:=kc0 c3;have k7:=kc0 c4;by_cases hins:WN runes caps hs.length ⟨zop,zx,zy,zn,zl⟩
       ·have HK:=HOK hins;rw[JK hins] at HF;clear HB HOK hins hw2 hw3 hw4 HBAD HEND
        go_wp2_with fail
        refine Xr.start [] kr ?_;refine Xtk 0 ?_
        iterate 5(refine Xtn ?_)
        refine Xcl 6 fun w3 hE3 hK3 K hKK=>?_;go_simp;refine(HF w3 hE3).out.mono ?_;rintro e w4 ⟨rfl,x4⟩;refine hKK _ _ x4 ?_;clear hKK;refine ptm ?_;refine Xtk 7 ?_;refine Xdn fun w5 hE5 hK5=>?_;have xf:=x1.trans hK5.nil;clear k0 k1 k2 k3 k4 k5 k6 k7
        go_wp2_with fail
        go_roundw
        case rel=>exact⟨k+1,by go_num,om,HK,xf⟩
        case measure=>simp[intOf];omega
       ·have HK:=HB hins;rw[ZX hins] at HF;clear HB HOK hins hw2 hw3 hw4 HBAD HEND
        go_wp2_with fail
        refine Xr.start [] kr ?_;refine Xtk 0 ?_
        iterate 5(refine Xtn ?_)
        refine Xcl 6 fun w3 hE3 hK3 K hKK=>?_;go_simp;refine(HF w3 hE3).out.mono ?_;rintro e w4 ⟨rfl,x4⟩;refine hKK _ _ x4 ?_;clear hKK;refine ptm ?_;refine Xtk 7 ?_;refine Xdn fun w5 hE5 hK5=>?_;have xf:=x1.trans hK5.nil;clear k0 k1 k2 k3 k4 k5 k6 k7
        go_wp2_with fail
        go_ret
        exact⟨by rw[HK.out];rfl,eG.trans xf⟩
      ·have hkI:¬(k:Int)<hs.length:=om;have hall:∀j (hj:j<hs.length),WN runes caps hs.length hs[j].ins:=fun j hj=>hok.out j hj om;have HE:=HEND hall;have hlast:=(hall (hs.length-1) om).2.2.2.2;obtain⟨pb,po,rfl,c0,c1,c2,c3,c4⟩:=(hP0.ext x1).get (k:=hs.length-1) om;generalize hs[hs.length-1]=hh at *;obtain⟨zop,zx,zy,zn,zA,zc,zl⟩:=hh;simp only[Hin.ins] at HE hlast c0;clear HBAD HEND hall hok c1 c2 c3 c4;have hwm:IntKind.i64.wrap ((hs.length:Int)-1)=(hs.length:Int)-1:=wj;have hl1:(hs.length:Int)-1<hs.length:=om;have hl2:(0:Int)<=(hs.length:Int)-1:=om;have hl3:((hs.length:Int)-1).toNat=hs.length-1:=om;have hzo:zop=0\/zop=1\/zop=2\/zop=3\/zop=4\/zop=5:=by
        rcases hlast with h|⟨h,_⟩|⟨h,_⟩|⟨h,_⟩|⟨h,_⟩|⟨h,_⟩<;>omega
       clear hlast;rcases hzo with rfl|rfl|rfl|rfl|rfl|rfl
       all_goals
        simp at HE
        go_wp2_with fail
        go_ret
        exact⟨by rw[HE.out];rfl,eG.trans x1⟩
end
