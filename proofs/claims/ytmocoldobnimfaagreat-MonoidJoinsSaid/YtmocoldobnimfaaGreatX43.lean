/- Texts of this proof: Y27. -/
import Derived.Test.YtmocoldobnimfaaGreatX42
set_option linter.all false
set_option maxRecDepth 100000
set_option maxHeartbeats 16000000
namespace Go.Proofs.YtmocoldobnimfaaGreat
section
open Go.RowKit
attribute [local go_sem ↓] Go.wp_at_zero Go.wp_at_succ
theorem Y27z1 {P:Prop} (h:P:=by
 clear hil;go_enter Tryz.func66,Tryz.ntmps66
 go_wp2_with fail
 go_ret
 exact⟨rfl,eG⟩):P:=h
theorem progValid_any (gA:Option Addr)(gc:Nat)(hs:List Hin)(runes:Bool)(caps:Int)(w:World)(hP:PL w gA gc hs) :
 Calls Tryz.prog 66 #[progV gA hs.length gc caps runes] w (RetV (.int .i64 (progE runes caps (insL hs))) w):=by
 have hcap:=hP.len;have bG:=Blk.new w 48 #[.slice gA hs.length gc,.int .i64 caps,.bool runes];have eG:=Ext.alloc w (.cells #[.slice gA hs.length gc,.int .i64 caps,.bool runes] 48);have hil:=insL_len hs;unfold progV;by_cases hbig:8192<hs.length
 ·rw[progE_big (by rw[hil];exact hbig)];have hbI:(8192:Int)<hs.length:=om;exact Y27z1
 ·have hbI:¬(8192:Int)<hs.length:=om;by_cases hn0:hs.length=0
  ·rw[progE_arg (by rw[hil];omega) (.inl (by rw[hil];exact hn0))];rw[hn0];clear hil hbig hbI hP hcap bG eG hn0;go_enter Tryz.func66,Tryz.ntmps66
   go_wp2_with fail
   all_goals
    go_ret
    exact⟨rfl,Ext.alloc _ _⟩
  ·have hnb:((hs.length:Int) == 0)=false:=by rw[beq_eq_false_iff_ne];omega
   by_cases hc0:caps<0
   ·rw[progE_arg (by rw[hil];omega) (.inr (.inl hc0))];exact Y27z1
   ·by_cases hc9:9<caps
    ·rw[progE_arg (by rw[hil];omega) (.inr (.inr hc9))];exact Y27z1
    ·clear hil;have hpos:0<hs.length:=om;have HBAD:=fun(k:Nat) (hk:k<hs.length) (h:¬InsOk runes caps hs.length hs[k].ins)=>lh (progE_badH (runes:=runes) (caps:=caps) (hs:=hs) hbig om hk h);have HEND:=fun(h:∀k (hk:k<hs.length),InsOk runes caps hs.length hs[k].ins)=>lh (progE_endH (runes:=runes) (caps:=caps) (hs:=hs) hbig om h om);obtain⟨E,hE⟩:∃E,E=progE runes caps (insL hs):=⟨_,rfl⟩
     rw[←hE] at HBAD HEND ⊢;clear hE;have hnb2:=lh hnb;go_enter Tryz.func66,Tryz.ntmps66
     go_upto_region 6 with fail
     clear hnb;have hP0:=hP.ext eG;generalize w.alloc (.cells #[.slice gA hs.length gc,.int .i64 caps,.bool runes] 48)=w0 at *
     go_loopw [25] (fun v wr=>∃k:Nat,v=.int .i64 k∧k≤hs.length∧Hid (∀j (hj:j<hs.length),j<k→InsOk runes caps hs.length hs[j].ins)∧Ext w0 wr) (fun v _=>hs.length-(intOf v).toNat)
     case atStart=>exact⟨0,rfl,om,lh (fun j _ h=>om),Ext.rfl' _⟩
     case round=>
      obtain⟨k,rfl,hk,hok,x1⟩:=hrel;have bG1:=bG.ext x1;obtain⟨r0,r1,r2,r0f,r1f,r2f,rz⟩:=bG1.c3;by_cases hlt:k<hs.length
      ·have hkI:(k:Int)<hs.length:=om;obtain⟨pb,po,rfl,c0,c1,c2,c3,c4⟩:=(hP0.ext x1).get hlt;have hsl:=(hP0.ext x1).sl _ (List.getElem_mem hlt);have hwf:=(hP0.ext x1).rng _ (List.getElem_mem hlt);have HB:=fun h=>(HBAD k hlt h);have HOK:=fun(h:InsOk runes caps hs.length hs[k].ins)=>lh (show ∀j (hj:j<hs.length),j<k+1→InsOk runes caps hs.length hs[j].ins from fun j hj hjk=>by
        rcases Nat.lt_or_ge j k with h1|h1
        ·exact hok.out j hj h1
        ·have:j=k:=om;subst this;exact h)
       generalize hs[k]=hh at *;obtain⟨zop,zx,zy,zn,zA,zc,zl⟩:=hh;obtain⟨_,hw2,hw3,hw4⟩:=hwf
       simp only at c0 c1 c2 c3 c4 hsl hw2 hw3 hw4
       simp only[Hin.ins] at HB HOK;have HF:=fun(w':World) (h:Ext wr w')=>lh (pvalid_any (some ⟨pb,po,none⟩) hs.length gc hcap runes caps ⟨om,om⟩ zop zx zy zn zA zc zl w' (hsl.ext h) pb (po+k*5) (h.cell c0) (h.cell c1) (h.cell c2) (h.cell c3) (h.cell c4));have k0:=kc0 r0;have k1:=kc0 r1;have k2:=kc0 r2;have k3:=kc0 c0;have k4:=kc0 c1;have k5:=kc0 c2;have k6:=kc0 c3;have k7:=kc0 c4;by_cases hins:InsOk runes caps hs.length ⟨zop,zx,zy,zn,zl⟩
       ·have HK:=HOK hins;rw[okB_t hins] at HF;clear HB HOK hins hw2 hw3 hw4 HBAD HEND
        go_wp2_with fail
        refine Xr.start [] kr ?_;refine Xtk 0 ?_
        iterate 4(refine Xtn ?_)
        refine Xcl 5 fun w3 hE3 hK3 K hKK=>?_;go_simp;refine(HF w3 hE3).out.mono ?_;rintro e w4 ⟨rfl,x4⟩;refine hKK _ _ x4 ?_;clear hKK;refine ptm ?_;refine Xtk 6 ?_;refine Xdn fun w5 hE5 hK5=>?_;have xf:=x1.trans hK5.nil;clear k0 k1 k2 k3 k4 k5 k6 k7
        go_wp2_with fail
        go_roundw
        case rel=>exact⟨k+1,by go_num,om,HK,xf⟩
        case measure=>simp[intOf];omega
       ·have HK:=HB hins;rw[okB_f hins] at HF;clear HB HOK hins hw2 hw3 hw4 HBAD HEND
        go_wp2_with fail
        refine Xr.start [] kr ?_;refine Xtk 0 ?_
        iterate 4(refine Xtn ?_)
        refine Xcl 5 fun w3 hE3 hK3 K hKK=>?_;go_simp;refine(HF w3 hE3).out.mono ?_;rintro e w4 ⟨rfl,x4⟩;refine hKK _ _ x4 ?_;clear hKK;refine ptm ?_;refine Xtk 6 ?_;refine Xdn fun w5 hE5 hK5=>?_;have xf:=x1.trans hK5.nil;clear k0 k1 k2 k3 k4 k5 k6 k7
        go_wp2_with fail
        go_ret
        exact⟨by rw[HK.out];rfl,eG.trans xf⟩
      ·have hkI:¬(k:Int)<hs.length:=om;have hall:∀j (hj:j<hs.length),InsOk runes caps hs.length hs[j].ins:=fun j hj=>hok.out j hj om;have HE:=HEND hall;have hlast:=(hall (hs.length-1) om).2.2.2.2;obtain⟨pb,po,rfl,c0,c1,c2,c3,c4⟩:=(hP0.ext x1).get (k:=hs.length-1) om;generalize hs[hs.length-1]=hh at *;obtain⟨zop,zx,zy,zn,zA,zc,zl⟩:=hh;simp only[Hin.ins] at HE hlast c0;clear HBAD HEND hall hok c1 c2 c3 c4;have hwm:IntKind.i64.wrap ((hs.length:Int)-1)=(hs.length:Int)-1:=wj;have hl1:(hs.length:Int)-1<hs.length:=om;have hl2:(0:Int)≤(hs.length:Int)-1:=om;have hl3:((hs.length:Int)-1).toNat=hs.length-1:=om;have hzo:zop=0∨zop=1∨zop=2∨zop=3∨zop=4∨zop=5:=by
        rcases hlast with h|⟨h,_⟩|⟨h,_⟩|⟨h,_⟩|⟨h,_⟩|⟨h,_⟩<;>omega
       clear hlast;rcases hzo with rfl|rfl|rfl|rfl|rfl|rfl
       all_goals
        simp at HE
        go_wp2_with fail
        go_ret
        exact⟨by rw[HE.out];rfl,eG.trans x1⟩
end
end Go.Proofs.YtmocoldobnimfaaGreat
