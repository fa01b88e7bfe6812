/- Texts of this proof: K9 K10 K11 C7. -/
import Derived.Test.YtmocoldobnimfaaGreatU22
import Derived.Test.YtmocoldobnimfaaGreatU23
set_option linter.all false
set_option maxRecDepth 100000
set_option maxHeartbeats 16000000
namespace Go.Proofs.YtmocoldobnimfaaGreat
section
open Go.RowKit
attribute [local go_sem ↓] Go.wp_at_zero Go.wp_at_succ
theorem ok1 {runes:Bool}{caps:Int}{n:Nat}{zl:List Sp}:InsOk runes caps n ⟨1,0,0,0,zl⟩↔validE zl=0∧∀s,zl.getLast? = some s→s.2≤topV runes:=by
 constructor
 ·intro h;rcases h.2.2.2.2 with h|⟨_,h,h'⟩|⟨h,_⟩|⟨h,_⟩|⟨h,_⟩|⟨h,_⟩
  ·simp at h
  ·exact⟨h,h'⟩
  ·simp at h
  ·simp at h
  ·simp at h
  ·simp at h
 ·exact fun h=>⟨.inl rfl,.inr rfl,.inr (.inr rfl),.inr (.inr rfl),.inr (.inl ⟨rfl,h⟩)⟩
theorem twoBox (w:World)(T1 T2:TypeId)(cs1 cs2:Array Value)(k:Nat)(v:Value)(h:cs2[k]? = some v):((w.alloc (.cells cs1 T1)).alloc (.cells cs2 T2)).cell? ⟨w.heap.size+1,k,none⟩=some v:=by
 have h1:=(Blk.new (w.alloc (.cells cs1 T1)) T2 cs2).cell k;rw[World.size_alloc] at h1;rw[h1];exact h
theorem K9z1 {P:Prop} (h:P:=by
 go_enter Tryz.func161,Tryz.ntmps161
 go_wp2_with fail
 refine HV2.out.mono ?_;rintro e w1 ⟨rfl,x1⟩;have s4:=x1.cell (twoBox w _ _ _ _ 4 _ rfl);have g2:=x1.cell g1'
 go_wp2_with fail
 go_ret
 exact⟨rfl,eX.trans x1⟩):P:=h
theorem K9z2 {P:Prop} (h:P:=by
 go_enter Tryz.func161,Tryz.ntmps161
 go_wp2_with fail
 refine HV2.out.mono ?_;rintro e w1 ⟨rfl,x1⟩;have s4:=x1.cell (twoBox w _ _ _ _ 4 _ rfl)
 go_wp2_with fail
 go_ret
 exact⟨rfl,eX.trans x1⟩):P:=h
theorem K9z3 {P:Prop} (h:P:=by
 go_enter Tryz.func161,Tryz.ntmps161
 go_wp2_with fail
 go_ret
 exact⟨rfl,(Ext.alloc _ _).trans (Ext.alloc _ _)⟩):P:=h
theorem formed1_any (gA:Option Addr)(n gc:Nat)(runes:Bool)(caps:Int)(zx zy zn:Int)(A:Option Addr)(c:Nat)(zl:List Sp)(w:World)(hL:SL w A c zl) :
 Calls Tryz.prog 161 #[progV gA n gc caps runes,insV 1 zx zy zn A zl.length c] w (RetV (.bool (okB runes caps n ⟨1,zx,zy,zn,zl⟩)) w):=by
 unfold progV insV;have hlen:=hL.len;by_cases hy0:zy=0
 ·subst hy0;by_cases hx0:zx=0
  ·subst hx0;by_cases hn0:zn=0
   ·subst hn0;have HV:=fun(W:World) (h:SL W A c zl)=>lh (gValid_any A c zl W h);by_cases hv:validE zl=0
    ·rw[hv] at HV;rcases List.eq_nil_or_concat zl with rfl|⟨u,p,rfl⟩
     ·rw[okB_t];rotate_left
      ·exact ok1.2 ⟨hv,by simp⟩
      clear hv hlen;have eX:=(Ext.alloc w (.cells #[.slice gA n gc,.int .i64 caps,.bool runes] 33)).trans (Ext.alloc _ (.cells #[.int .i64 1,.int .i64 0,.int .i64 0,.int .i64 0,.slice A 0 c] 123));have HV2:=HV _ (hL.ext eX);clear HV;rw[show([]:List Sp).length=0 from rfl] at *;cases runes
      ·exact K9z2
      ·exact K9z2
     ·obtain⟨lb,lo,rfl,g00,g1⟩:=hL.get (k:=u.length) si;have hp:(u.concat p)[u.length]'si=p:=by simp
      rw[hp] at g1;have hl1:(u.concat p).length=u.length+1:=by simp
      have HLN:=lh hl1;have HOK:(p.2≤topV runes→okB runes caps n ⟨1,0,0,0,u.concat p⟩=true)∧(¬p.2≤topV runes→okB runes caps n ⟨1,0,0,0,u.concat p⟩=false):=by
       have e:(u.concat p).getLast? = some p:=by rw[List.concat_eq_append];simp
       refine⟨fun h=>okB_t (ok1.2 ⟨hv,fun s hs=>?_⟩),fun h=>okB_f (fun h2=>h ((ok1.1 h2).2 p e))⟩;rw[e] at hs;injection hs with hs;rw[←hs];exact h
      have eX:=(Ext.alloc w (.cells #[.slice gA n gc,.int .i64 caps,.bool runes] 33)).trans (Ext.alloc _ (.cells #[.int .i64 1,.int .i64 0,.int .i64 0,.int .i64 0,.slice (some ⟨lb,lo,none⟩) (u.concat p).length c] 123));have HV2:=HV _ (hL.ext eX);clear HV hp hv hL g00;rw[HLN.out] at hlen HV2 eX ⊢;clear hl1 HLN;obtain⟨B,hB⟩:∃B,B=okB runes caps n ⟨1,0,0,0,u.concat p⟩:=⟨_,rfl⟩
      rw[←hB] at HOK ⊢;clear hB;generalize u.length=m at *;have hwm:IntKind.i64.wrap ((m:Int)+1-1)=(m:Int):=wj;have hwm2:IntKind.i64.wrap (m:Int)=(m:Int):=wj;have hm1:(m:Int)<(m:Int)+1:=om;have hm0:((m:Int)+1 == 0)=false:=by rw[beq_eq_false_iff_ne];omega
      obtain⟨p1,p2⟩:=p
      simp only at g1 HOK
      have g1':=eX.cell g1;cases runes
      ·have ht:topV false=255:=rfl;rw[ht] at HOK;by_cases hq:p2≤255
       ·rw[HOK.1 hq];clear HOK ht;exact K9z1
       ·rw[HOK.2 hq];clear HOK ht;have hq2:=decide_eq_false hq;clear hq;exact K9z1
      ·have ht:topV true=1114111:=rfl;rw[ht] at HOK;by_cases hq:p2≤1114111
       ·rw[HOK.1 hq];clear HOK ht;exact K9z1
       ·rw[HOK.2 hq];clear HOK ht;have hq2:=decide_eq_false hq;clear hq;exact K9z1
    ·rw[okB_f];rotate_left
     ·exact fun h=>hv (ok1.1 h).1
     have hv2:(validE zl == 0)=false:=by rw[beq_eq_false_iff_ne];exact hv
     generalize validE zl=vE at *;have eX:=(Ext.alloc w (.cells #[.slice gA n gc,.int .i64 caps,.bool runes] 33)).trans (Ext.alloc _ (.cells #[.int .i64 1,.int .i64 0,.int .i64 0,.int .i64 0,.slice A zl.length c] 123));have HV2:=HV _ (hL.ext eX);clear HV hv;cases runes
     ·exact K9z2
     ·exact K9z2
   ·have hbn:(zn != 0)=true:=by simp[hn0]
    rw[okB_f];rotate_left
    ·exact fun h=>by have h3:=h.2.2.2.1;simp only at h3;omega
    exact K9z3
  ·have hbx:(zx != 0)=true:=by simp[hx0]
   rw[okB_f];rotate_left
   ·exact fun h=>by have h3:=h.2.2.1;simp only at h3;omega
   exact K9z3
 ·have hby:(zy != 0)=true:=by simp[hy0]
  rw[okB_f];rotate_left
  ·exact fun h=>by have h3:=h.2.1;simp only at h3;omega
  exact K9z3
theorem formed_any (gA:Option Addr)(n gc:Nat)(hn:n≤1000000)(runes:Bool)(caps:Int)(hcaps:0≤caps∧caps≤9)(zo zx zy zn:Int)(A:Option Addr)(c:Nat)(zl:List Sp)(w:World)(hL:SL w A c zl)(hw:I64 zx∧I64 zy∧I64 zn) :
 Calls Tryz.prog 161 #[progV gA n gc caps runes,insV zo zx zy zn A zl.length c] w (RetV (.bool (okB runes caps n ⟨zo,zx,zy,zn,zl⟩)) w):=by
 by_cases h0:zo=0
 ·subst h0;exact formed0_any gA n gc hn runes caps hcaps zx zy zn A c zl w hL hw
 by_cases h1:zo=1
 ·subst h1;exact formed1_any gA n gc runes caps zx zy zn A c zl w hL
 by_cases h2:zo=2
 ·subst h2;exact formed2_any gA n gc hn runes caps hcaps zx zy zn A c zl w hL hw
 by_cases h3:zo=3
 ·subst h3;exact formed3_any gA n gc hn runes caps hcaps zx zy zn A c zl w hL hw
 by_cases h4:zo=4
 ·subst h4;exact formed4_any gA n gc hn runes caps hcaps zx zy zn A c zl w hL hw
 by_cases h5:zo=5
 ·subst h5;exact formed5_any gA n gc hn runes caps hcaps zx zy zn A c zl w hL hw
 exact formedz_any gA n gc hn runes caps hcaps zo zx zy zn A c zl w hL hw ⟨h0,h1,h2,h3,h4,h5⟩
end
section
open Go.RowKit
attribute [local go_sem ↓] Go.wp_at_zero Go.wp_at_succ
theorem progE_badH {runes:Bool}{caps:Int}{hs:List Hin}(h:¬8192<hs.length)(h2:¬(hs.length=0∨caps<0∨9<caps)){k:Nat}(hk:k<hs.length)(h3:¬InsOk runes caps hs.length hs[k].ins):progE runes caps (insL hs)=1:=by
 have hil:=insL_len hs;refine progE_bad (k:=k) om om om ?_;simp only[insL_getElem,insL_len];exact h3
theorem progE_endH {runes:Bool}{caps:Int}{hs:List Hin}(h:¬8192<hs.length)(h2:¬(hs.length=0∨caps<0∨9<caps))(h3:∀k (hk:k<hs.length),InsOk runes caps hs.length hs[k].ins)(hl:hs.length-1<hs.length) :
 progE runes caps (insL hs)=if hs[hs.length-1].op=0∨hs[hs.length-1].op=2∨hs[hs.length-1].op=3 then 0 else 1:=by
 have hil:=insL_len hs;have h1:=progE_end (runes:=runes) (caps:=caps) (G:=insL hs) om om (fun k hk=>by
  simp only[insL_getElem,insL_len];exact h3 k om) om
 rw[h1];simp only[insL_getElem,insL_len,Hin.ins]
theorem K10z1 {P:Prop} (h:P:=by
 clear hil;go_enter Tryz.func123,Tryz.ntmps123
 go_wp2_with fail
 go_ret
 exact⟨rfl,eG⟩):P:=h
theorem xvalid_any (gA:Option Addr)(gc:Nat)(hs:List Hin)(runes:Bool)(caps:Int)(w:World)(hP:PL w gA gc hs) :
 Calls Tryz.prog 123 #[progV gA hs.length gc caps runes] w (RetV (.int .i64 (progE runes caps (insL hs))) w):=by
 have hcap:=hP.len;have bG:=Blk.new w 33 #[.slice gA hs.length gc,.int .i64 caps,.bool runes];have eG:=Ext.alloc w (.cells #[.slice gA hs.length gc,.int .i64 caps,.bool runes] 33);have hil:=insL_len hs;unfold progV;by_cases hbig:8192<hs.length
 ·rw[progE_big (by rw[hil];exact hbig)];have hbI:(8192:Int)<hs.length:=om;exact K10z1
 ·have hbI:¬(8192:Int)<hs.length:=om;by_cases hn0:hs.length=0
  ·rw[progE_arg (by rw[hil];omega) (.inl (by rw[hil];exact hn0))];rw[hn0];clear hil hbig hbI hP hcap bG eG hn0;go_enter Tryz.func123,Tryz.ntmps123
   go_wp2_with fail
   go_ret
   exact⟨rfl,Ext.alloc _ _⟩
  ·have hnb:((hs.length:Int) == 0)=false:=by rw[beq_eq_false_iff_ne];omega
   by_cases hc0:caps<0
   ·rw[progE_arg (by rw[hil];omega) (.inr (.inl hc0))];exact K10z1
   ·by_cases hc9:9<caps
    ·rw[progE_arg (by rw[hil];omega) (.inr (.inr hc9))];exact K10z1
    ·clear hil;have hpos:0<hs.length:=om;have HBAD:=fun(k:Nat) (hk:k<hs.length) (h:¬InsOk runes caps hs.length hs[k].ins)=>lh (progE_badH (runes:=runes) (caps:=caps) (hs:=hs) hbig om hk h);have HEND:=fun(h:∀k (hk:k<hs.length),InsOk runes caps hs.length hs[k].ins)=>lh (progE_endH (runes:=runes) (caps:=caps) (hs:=hs) hbig om h om);obtain⟨E,hE⟩:∃E,E=progE runes caps (insL hs):=⟨_,rfl⟩
     rw[←hE] at HBAD HEND ⊢;clear hE;have hnb2:=lh hnb;go_enter Tryz.func123,Tryz.ntmps123
     go_upto_region 6 with fail
     clear hnb;have hP0:=hP.ext eG;generalize w.alloc (.cells #[.slice gA hs.length gc,.int .i64 caps,.bool runes] 33)=w0 at *
     go_loopw [3] (fun v wr=>∃k:Nat,v=.int .i64 k∧k≤hs.length∧Hid (∀j (hj:j<hs.length),j<k→InsOk runes caps hs.length hs[j].ins)∧Ext w0 wr) (fun v _=>hs.length-(intOf v).toNat)
     case atStart=>exact⟨0,rfl,om,lh (fun j _ h=>om),Ext.rfl' _⟩
     case round=>
      obtain⟨k,rfl,hk,hok,x1⟩:=hrel;have bG1:=bG.ext x1;obtain⟨r0,r1,r2,r0f,r1f,r2f,rz⟩:=bG1.c3;by_cases hlt:k<hs.length
      ·have hkI:(k:Int)<hs.length:=om;obtain⟨pb,po,rfl,c0,c1,c2,c3,c4⟩:=(hP0.ext x1).get hlt;have hsl:=(hP0.ext x1).sl _ (List.getElem_mem hlt);have hwf:=(hP0.ext x1).rng _ (List.getElem_mem hlt);have HB:=fun h=>(HBAD k hlt h);have HOK:=fun(h:InsOk runes caps hs.length hs[k].ins)=>lh (show ∀j (hj:j<hs.length),j<k+1→InsOk runes caps hs.length hs[j].ins from fun j hj hjk=>by
        rcases Nat.lt_or_ge j k with h1|h1
        ·exact hok.out j hj h1
        ·have:j=k:=om;subst this;exact h)
       generalize hs[k]=hh at *;obtain⟨zop,zx,zy,zn,zA,zc,zl⟩:=hh;obtain⟨_,hw2,hw3,hw4⟩:=hwf
       simp only at c0 c1 c2 c3 c4 hsl hw2 hw3 hw4
       simp only[Hin.ins] at HB HOK;have HF:=fun(w':World) (h:Ext wr w')=>lh (formed_any (some ⟨pb,po,none⟩) hs.length gc om runes caps ⟨om,om⟩ zop zx zy zn zA zc zl w' (hsl.ext h) ⟨hw2,hw3,hw4⟩);unfold progV insV at HF;have k0:=kc0 r0;have k1:=kc0 r1;have k2:=kc0 r2;have k3:=kc0 c0;have k4:=kc0 c1;have k5:=kc0 c2;have k6:=kc0 c3;have k7:=kc0 c4;by_cases hins:InsOk runes caps hs.length ⟨zop,zx,zy,zn,zl⟩
       ·have HK:=HOK hins;rw[okB_t hins] at HF;clear HB HOK hins hw2 hw3 hw4 HBAD HEND
        go_wp2_with fail
        refine Xr.start [] kr ?_;refine Xtk 0 ?_
        iterate 5(refine Xtn ?_)
        refine Xcl 6 fun w3 hE3 hK3 K hKK=>?_;go_simp;refine(HF w3 hE3).out.mono ?_;rintro e w4 ⟨rfl,x4⟩;refine hKK _ _ x4 ?_;clear hKK;refine ptm ?_;refine Xtk 7 ?_;refine Xdn fun w5 hE5 hK5=>?_;have xf:=x1.trans hK5.nil;clear k0 k1 k2 k3 k4 k5 k6 k7
        go_wp2_with fail
        go_roundw
        case rel=>exact⟨k+1,by go_num,om,HK,xf⟩
        case measure=>simp[intOf];omega
       ·have HK:=HB hins;rw[okB_f hins] at HF;clear HB HOK hins hw2 hw3 hw4 HBAD HEND
        go_wp2_with fail
        refine Xr.start [] kr ?_;refine Xtk 0 ?_
        iterate 5(refine Xtn ?_)
        refine Xcl 6 fun w3 hE3 hK3 K hKK=>?_;go_simp;refine(HF w3 hE3).out.mono ?_;rintro e w4 ⟨rfl,x4⟩;refine hKK _ _ x4 ?_;clear hKK;refine ptm ?_;refine Xtk 7 ?_;refine Xdn fun w5 hE5 hK5=>?_;have xf:=x1.trans hK5.nil;clear k0 k1 k2 k3 k4 k5 k6 k7
        go_wp2_with fail
        go_ret
        exact⟨by rw[HK.out];rfl,eG.trans xf⟩
      ·have hkI:¬(k:Int)<hs.length:=om;have hall:∀j (hj:j<hs.length),InsOk runes caps hs.length hs[j].ins:=fun j hj=>hok.out j hj om;have HE:=HEND hall;have hlast:=(hall (hs.length-1) om).2.2.2.2;obtain⟨pb,po,rfl,c0,c1,c2,c3,c4⟩:=(hP0.ext x1).get (k:=hs.length-1) om;generalize hs[hs.length-1]=hh at *;obtain⟨zop,zx,zy,zn,zA,zc,zl⟩:=hh;simp only[Hin.ins] at HE hlast c0;clear HBAD HEND hall hok c1 c2 c3 c4;have hwm:IntKind.i64.wrap ((hs.length:Int)-1)=(hs.length:Int)-1:=wj;have hl1:(hs.length:Int)-1<hs.length:=om;have hl2:(0:Int)≤(hs.length:Int)-1:=om;have hl3:((hs.length:Int)-1).toNat=hs.length-1:=om;have hzo:zop=0∨zop=1∨zop=2∨zop=3∨zop=4∨zop=5:=by
        rcases hlast with h|⟨h,_⟩|⟨h,_⟩|⟨h,_⟩|⟨h,_⟩|⟨h,_⟩<;>omega
       clear hlast;rcases hzo with rfl|rfl|rfl|rfl|rfl|rfl
       all_goals
        simp at HE
        go_wp2_with fail
        go_ret
        exact⟨by rw[HE.out];rfl,eG.trans x1⟩
end
section
open Go.RowKit
attribute [local go_sem ↓] Go.wp_at_zero Go.wp_at_succ
theorem chkE_prog {runes:Bool}{caps:Int}{G:List Ins}(h:progE runes caps G≠0):chkE runes caps G=progE runes caps G:=by unfold chkE;rw[if_pos h]
theorem chkE_kind {runes:Bool}{caps:Int}{hs:List Hin}(h:progE runes caps (insL hs)=0){k:Nat}(hk:k<hs.length)(h5:hs[k].op=5):chkE runes caps (insL hs)=10:=by
 unfold chkE;rw[if_neg (fun h2=>h2 h),if_pos ⟨hs[k].ins,List.mem_map_of_mem (List.getElem_mem hk),h5⟩]
theorem chkE_ok {runes:Bool}{caps:Int}{hs:List Hin}(h:progE runes caps (insL hs)=0)(h5:∀k (hk:k<hs.length),hs[k].op≠5):chkE runes caps (insL hs)=0:=by
 unfold chkE;rw[if_neg (fun h2=>h2 h),if_neg];rintro⟨i,hi,h⟩;obtain⟨z,hz,rfl⟩:=List.mem_map.1 hi;obtain⟨k,hk,rfl⟩:=List.mem_iff_getElem.1 hz;exact h5 k hk h
theorem check12_any (gA:Option Addr)(gc:Nat)(hs:List Hin)(runes:Bool)(caps:Int)(w:World)(hP:PL w gA gc hs) :
 Calls Tryz.prog 74 #[progV gA hs.length gc caps runes] w (RetV (.int .i64 (chkE runes caps (insL hs))) w):=by
 have hcap:=hP.len;have bG:=Blk.new w 33 #[.slice gA hs.length gc,.int .i64 caps,.bool runes];have eG:=Ext.alloc w (.cells #[.slice gA hs.length gc,.int .i64 caps,.bool runes] 33);have HV:=fun(w':World) (h:PL w' gA gc hs)=>lh (xvalid_any gA gc hs runes caps w' h);unfold progV at HV ⊢;have HV2:=HV _ (hP.ext eG);clear HV;by_cases hp:progE runes caps (insL hs)=0
 ·have HK:=fun(k:Nat) (hk:k<hs.length) h=>lh (chkE_kind (runes:=runes) (caps:=caps) (hs:=hs) hp hk h);have HO:=fun h=>lh (chkE_ok (runes:=runes) (caps:=caps) (hs:=hs) hp h);rw[hp] at HV2;generalize chkE runes caps (insL hs)=E at *;clear hp;go_enter Tryz.func74,Tryz.ntmps74
  go_wp2_with fail
  refine HV2.out.mono ?_;rintro e w1 ⟨rfl,x1⟩;clear HV2
  go_upto_region 5 with fail
  have hP1:=(hP.ext eG).ext x1;have bG1:=bG.ext x1
  go_loopw [4] (fun v wr=>∃k:Nat,v=.int .i64 k∧k≤hs.length∧Hid (∀j (hj:j<hs.length),j<k→hs[j].op≠5)∧Ext w1 wr) (fun v _=>hs.length-(intOf v).toNat)
  case atStart=>exact⟨0,rfl,om,lh (fun j _ h=>om),Ext.rfl' _⟩
  case round=>
   obtain⟨k,rfl,hk,hno,y1⟩:=hrel;have bG2:=bG1.ext y1;obtain⟨r0,r1,r2,r0f,r1f,r2f,rz⟩:=bG2.c3;by_cases hlt:k<hs.length
   ·have hkI:(k:Int)<hs.length:=om;obtain⟨pb,po,rfl,c0,c1,c2,c3,c4⟩:=(hP1.ext y1).get hlt;have HKK:=HK k hlt;have HNO:=fun(h:hs[k].op≠5)=>lh (show ∀j (hj:j<hs.length),j<k+1→hs[j].op≠5 from fun j hj hjk=>by
     rcases Nat.lt_or_ge j k with h1|h1
     ·exact hno.out j hj h1
     ·have:j=k:=om;subst this;exact h)
    generalize hs[k]=hh at *;obtain⟨zop,zx,zy,zn,zA,zc,zl⟩:=hh
    simp only at c0 HKK HNO
    clear c1 c2 c3 c4 HK HO;by_cases h5:zop=5
    ·have h5b:(zop == 5)=true:=by simp[h5]
     have HKE:=HKK h5;clear h5 HKK HNO
     go_wp2_with fail
     go_ret
     exact⟨by rw[HKE.out];rfl,(eG.trans x1).trans y1⟩
    ·have h5b:(zop == 5)=false:=by simp[h5]
     have HNE:=HNO h5;clear h5 HKK HNO
     go_wp2_with fail
     go_roundw
     case rel=>exact⟨k+1,by go_num,om,HNE,y1⟩
     case measure=>simp[intOf];omega
   ·have hkI:¬(k:Int)<hs.length:=om;have HE:=HO (fun j hj=>hno.out j hj om);clear HK HO
    go_wp2_with fail
    go_ret
    exact⟨by rw[HE.out];rfl,(eG.trans x1).trans y1⟩
 ·rw[chkE_prog hp];have hp2:(progE runes caps (insL hs) != 0)=true:=by simp[hp]
  generalize progE runes caps (insL hs)=E at *;clear hp;go_enter Tryz.func74,Tryz.ntmps74
  go_wp2_with fail
  refine HV2.out.mono ?_;rintro e w1 ⟨rfl,x1⟩
  go_wp2_with fail
  go_ret
  exact⟨rfl,eG.trans x1⟩
end
section
open Go.RowKit
attribute [local go_sem ↓] Go.wp_at_zero Go.wp_at_succ
theorem xcode_4 (w0:World)(bd:Nat)(S:Nat→Prop)(d B:Nat)(IH:CodeAll bd S w0 d B)(hB:2≤B)(hbd:2≤bd)(w:World)(x0:Ext w0 w)(A:Option Addr)(c:Nat)(l:List Sp)(K:Option Addr)(kc:Nat)(ks:List Value)(m:Nat)(mx md nn:Int)(neg:Bool)(fm:Int)
 (ht4:TreeAt bd S w0 (d+1) (.agg #[.int .i64 4,.slice A l.length c,.slice K ks.length kc,.int .i64 (m:Int),.int .i64 mx,.int .i64 md,.int .i64 nn,.bool neg])) (h1k:1≤ks.length) (hm:m≤bd) (hmx : -1≤mx∧mx≤bd) (hmm:mx = -1→m+1≤bd) (hmd:0≤md∧md≤1) (hkl:ks.length≤kc∧kc≤maxLen) (hcl:CellsAt w0 K (ks.flatMap cellsOf)) (hks:∀u∈ks,TreeAt bd S w0 d u) (hf:0≤fm) (hfB:fm+(B*bd:Nat)≤1000000) :
 Calls Tryz.prog 65 #[.agg #[.int .i64 4,.slice A l.length c,.slice K ks.length kc,.int .i64 (m:Int),.int .i64 mx,.int .i64 md,.int .i64 nn,.bool neg],.int .i64 fm] w (RetCd 123 w0 (B*bd) w):=by
 have B0:=Blk.new w 26 #[.int .i64 4,.slice A l.length c,.slice K ks.length kc,.int .i64 (m:Int),.int .i64 mx,.int .i64 md,.int .i64 nn,.bool neg];have E0:=Ext.alloc w (.cells #[.int .i64 4,.slice A l.length c,.slice K ks.length kc,.int .i64 (m:Int),.int .i64 mx,.int .i64 md,.int .i64 nn,.bool neg] 26);have HR:=lh (xrep_any w0 bd S d B IH hB hbd (w.alloc (.cells #[.int .i64 4,.slice A l.length c,.slice K ks.length kc,.int .i64 (m:Int),.int .i64 mx,.int .i64 md,.int .i64 nn,.bool neg] 26)) (x0.trans E0) A c l K kc ks m mx md nn neg fm ht4 h1k hm hmx hmm hmd hkl hcl hks hf hfB);clear IH ht4 hcl hks hmm hfB hf h1k hm hmx hmd;go_enter Tryz.func65,Tryz.ntmps65
 go_upto_region 1 with fail
 obtain⟨gx,hgx⟩:∃gx,gx=w.heap.size:=⟨_,rfl⟩
 rw[←hgx] at B0 ⊢;clear hgx;generalize w.alloc (.cells #[.int .i64 4,.slice A l.length c,.slice K ks.length kc,.int .i64 (m:Int),.int .i64 mx,.int .i64 md,.int .i64 nn,.bool neg] 26)=wa at *;have z0:=B0.cell 0;have z1:=B0.cell 1;have z2:=B0.cell 2;have z3:=B0.cell 3;have z4:=B0.cell 4;have z5:=B0.cell 5;have z6:=B0.cell 6;have z7:=B0.cell 7;clear B0
 go_wp2_with (go_at_call 112;refine HR.out.mono ?_;rintro e w3 ⟨A3,c3,hs3,rfl,h1,h2⟩)
 go_ret
 exact⟨A3,c3,hs3,rfl,h1,h2.low E0⟩
theorem RetCd.le {T:Nat}{w0 w:World}{N M:Nat}{e:Ending}{w':World}(h:RetCd T w0 N w e w')(hN:N≤M):RetCd T w0 M w e w':=h.up (Ext.rfl' w) hN
theorem xcode_step (w0:World)(bd:Nat)(S:Nat→Prop)(d B:Nat)(hbd:3≤bd)(hB:2≤B)(IH:CodeAll bd S w0 d B):CodeAll bd S w0 (d+1) (B*bd):=by
 intro w v x0 ht fm hf hfB;obtain⟨n,rfl,hok,hsl,hkl,hkc,hcl,hks⟩:=ht.node;obtain⟨op,A,c,l,K,kc,ks,mn,mx,md,nn,neg⟩:=n;have hop:=hok.op;have halt:=hok.alt;have hone:=hok.one;have hfew:=hok.few;have hmn:=hok.mn;have hmx:=hok.mx;have hmm:=hok.mm;have hmd:=hok.md;have hn:=hok.n;have hset:=hok.set
 simp only at hop halt hone hfew hmn hmx hmm hmd hn hset hsl hkl hkc hcl hks
 have hBn:B*ks.length≤B*bd:=mul_le2 om;have hB3:B*3≤B*bd:=mul_le2 hbd;have hBz:ks.length=0→B*ks.length=0:=fun h=>by rw[h];simp
 unfold Nd.val at ht ⊢
 simp only at ht ⊢
 rcases hop with rfl|rfl|rfl|rfl|rfl|rfl|rfl
 ·exact(xcode_0 w0 w x0 A c l K kc ks mn mx md nn neg fm).mono (fun e w' h=>h.le om)
 ·exact(xcode_1 w0 w x0 A c l K kc ks mn mx md nn neg fm hsl hset).mono (fun e w' h=>h.le om)
 ·exact(xcode_2 w0 w x0 A c l K kc ks mn mx md nn neg fm bd S d B IH hB ⟨hkl,hkc⟩ hcl hks hf om).mono (fun e w' h=>h.le om)
 ·have h2:=halt rfl;obtain⟨m,hm⟩:∃m,ks.length=m+2:=⟨ks.length-2,om⟩;exact(xcode_3 w0 bd S d B IH hB m w x0 A c l K kc ks mn mx md nn neg fm hm ⟨hkl,hkc⟩ hcl hks hf om).mono (fun e w' h=>h.le om)
 ·obtain⟨m,rfl⟩:∃m:Nat,mn=m:=⟨mn.toNat,om⟩;exact xcode_4 w0 bd S d B IH hB om w x0 A c l K kc ks m mx md nn neg fm ht (hone (.inl rfl)) om hmx (fun h=>by have:=hmm h;omega) hmd ⟨hkl,hkc⟩ hcl hks hf hfB
 ·exact(xcode_5 w0 bd S d B IH hB w x0 A c l K kc ks mn mx md nn neg fm hn (hone (.inr rfl)) ⟨hkl,hkc⟩ hcl hks hf om).mono (fun e w' h=>h.le om)
 ·exact(xcode_11 w0 w x0 A c l K kc ks mn mx md nn neg fm hn).mono (fun e w' h=>h.le om)
def lenB (bd:Nat):Nat→Nat
 | 0=>1
 | d+1=>lenB bd d*bd
theorem lenB_pos {bd:Nat}(h:3≤bd):∀d,1≤lenB bd d∧(d≠0→3≤lenB bd d)
 | 0=>⟨by simp[lenB],by simp⟩
 | d+1=>by
  have ih:=(lenB_pos h d).1;have:1*bd≤lenB bd d*bd:=Nat.mul_le_mul_right _ ih;simp only[lenB];omega
theorem tree_one {bd:Nat}{S:Nat→Prop}{w:World}{ks:List Value}(h:∀u∈ks,TreeAt bd S w 0 u):ks=[]:=by
 cases ks with
 | nil=>rfl
 | cons u ks=>obtain⟨e,he⟩:=(h u si).pos;omega
theorem xcode_any (w0:World)(bd:Nat)(S:Nat→Prop)(hbd:3≤bd):∀d,CodeAll bd S w0 d (lenB bd d)
 | 0=>fun w v x0 ht=>by obtain⟨e,he⟩:=ht.pos;omega
 | 1=>by
  intro w v x0 ht fm hf hfB;have IH:CodeAll bd S w0 0 2:=fun w v x0 ht=>by obtain⟨e,he⟩:=ht.pos;omega
  have hb1:lenB bd 1=bd:=by simp[lenB]
  rw[hb1] at hfB ⊢;obtain⟨n,rfl,hok,hsl,hkl,hkc,hcl,hks⟩:=ht.node;have hk0:=tree_one hks;obtain⟨op,A,c,l,K,kc,ks,mn,mx,md,nn,neg⟩:=n;have hop:=hok.op;have halt:=hok.alt;have hone:=hok.one;have hn:=hok.n;have hset:=hok.set
  simp only at hop halt hone hn hset hsl hkl hkc hcl hks hk0
  subst hk0;unfold Nd.val
  simp only
  rcases hop with rfl|rfl|rfl|rfl|rfl|rfl|rfl
  ·exact(xcode_0 w0 w x0 A c l K kc [] mn mx md nn neg fm).mono (fun e w' h=>h.le om)
  ·exact(xcode_1 w0 w x0 A c l K kc [] mn mx md nn neg fm hsl hset).mono (fun e w' h=>h.le om)
  ·exact(xcode_2 w0 w x0 A c l K kc [] mn mx md nn neg fm bd S 0 2 IH om ⟨hkl,hkc⟩ hcl hks hf (by simp;omega)).mono (fun e w' h=>h.le (by simp;omega))
  ·have:=halt rfl;simp at this
  ·have:=hone (.inl rfl);simp at this
  ·have:=hone (.inr rfl);simp at this
  ·exact(xcode_11 w0 w x0 A c l K kc [] mn mx md nn neg fm hn).mono (fun e w' h=>h.le om)
 | d+2=>xcode_step w0 bd S (d+1) (lenB bd (d+1)) hbd (by have:=(lenB_pos hbd (d+1)).2 om;omega) (xcode_any w0 bd S hbd (d+1))
end
end Go.Proofs.YtmocoldobnimfaaGreat
