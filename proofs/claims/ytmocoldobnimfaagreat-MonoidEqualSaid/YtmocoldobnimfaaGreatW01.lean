/- Texts of this proof: DO. -/
import Derived.Test.YtmocoldobnimfaaGreatU00
import Derived.Test.YtmocoldobnimfaaGreatW00
import Derived.Test.YtmocoldobnimfaaGreatU51
import Derived.Test.YtmocoldobnimfaaGreatU20
set_option linter.all false
set_option maxRecDepth 100000
set_option maxHeartbeats 16000000
namespace Go.Proofs.YtmocoldobnimfaaGreat
section
open Go.RowKit
attribute [local go_sem ↓] Go.wp_at_zero Go.wp_at_succ
theorem growAll_all {Q:St→Prop}:∀(ts:List St) (L:List St),(∀s∈L,Q s)→(∀s∈ts,Q s)→∀s∈growAll ts L,Q s
 | [],_,h,_=>h
 | t::ts,L,h,k=>by
  refine growAll_all ts (grow L t) (fun s hs=>?_) (fun s hs=>k s (List.mem_cons_of_mem _ hs));unfold grow at hs
  split at hs
  ·exact h s hs
  ·rcases List.mem_append.1 hs with hs|hs
   ·exact h s hs
   ·rw[List.mem_singleton.1 hs];exact k t List.mem_cons_self
theorem expl_all {nx:St→List St}{Q:St→Prop}(hnx:∀l,∀s∈nx l,Q s):∀(f i:Nat) {L R:List St},(∀s∈L,Q s)→expl nx f i L=some R→∀s∈R,Q s
 | 0,_,_,_,_,h=>by cases h
 | f+1,i,L,R,hq,h=>by
  unfold expl at h
  split at h
  ·cases h
  ·split at h
   ·injection h with h;subst h;exact hq
   ·exact expl_all hnx f (i+1) (growAll_all _ _ hq (hnx _)) h
theorem stsG_ok {runes:Bool}{caps:Int}{hs:List Hin}(hG:GOk runes caps (insL hs)){cs:List Int}{R:List St}(h:stsG (insL hs) cs=some R):∀s∈R,StOk hs.length s:=by
 unfold stsG at h;refine expl_all (fun l s hm=>?_) _ _ (fun s hm=>?_) h
 ·obtain⟨c,_,rfl⟩:=List.mem_map.1 hm;exact nextG_ok hG l c
 ·have h0:StOk hs.length (stateG (insL hs) [0]):=⟨stateG_lt _,by have h1:=stateG_len (G:=insL hs) [0];have h2:=hG.len;omega⟩;unfold grow at hm
  split at hm
  ·cases hm
  ·rw[List.nil_append] at hm;rw[List.mem_singleton.1 hm];exact h0
theorem found_same {G:List Ins}{R:List St}{op:List Bool}{a b:List Int}(h:sameG G R a b=true)(sure:Bool):foundG G R op a sure=foundG G R op b sure:=by
 unfold sameG at h;simp only[Bool.and_eq_true,decide_eq_true_eq] at h;obtain⟨hl,_,hS⟩:=h;have hk:∀k,k≤a.length→rrun G (stateG G [0]) (a.drop k) 0=rrun G (stateG G [0]) (b.drop k) 0:=fun k hk=>by
  rcases Nat.lt_or_ge k a.length with h1|h1
  ·exact hS k h1
  ·rw[List.drop_of_length_le h1,List.drop_of_length_le om]
 have up:∀k,k≤a.length+1→fndUp G R op a sure k=fndUp G R op b sure k:=fun k=>by
  induction k with
  | zero=>intro _;rfl
  | succ k ih=>
   intro h1;have e:=hk k om
   show fndUp G R op a sure k++_=fndUp G R op b sure k++_
   rw[ih om];unfold fndB;rw[e]
 unfold foundG
 rw[←hl];exact up _ (Nat.le_refl _)
theorem like_bd {x:Int}(l:List Int)(h:∀z∈l,0≤z∧z≤200)(hx:0≤x∧x≤200):∀z∈l++[x],0≤z∧z≤200:=fun z hz=>by
 rcases List.mem_append.1 hz with hz|hz
 ·exact h z hz
 ·rw[List.mem_singleton.1 hz];exact hx
theorem doS {P:Prop}(h:P:=by
 go_wp2_with fail
 generalize w22.setCell ⟨gl,i,none⟩ (.int .i64 65)=wz at *;go_roundw
 case rel=>exact⟨i+1,_,c3,zs,by rw[HLZ.out],by go_num,om,HL2,HB2,HOZ,HXZ.out⟩
 case measure=>simp[intOf];omega):P:=h
theorem doR {P:Prop}(h:P:=by
 have k0:=kc0 q0;have k1:=kc0 q1;have k2:=kc0 q2;have k3:=kc0 q3;have k4:=kc0 q4;have k5:=kc0 q5;have k6:=kc0 z1;have k7:=kc0 z2;clear q0 q1 q2 q3 q4 q5 z1 z2;refine Xr.start [] kr ?_;refine Xtk 0 ?_
 iterate 9(refine Xtn ?_)
 refine Xcl 10 fun w27 hE4 hK4 K hKK=>?_;go_simp;refine(HQS w27 hK4.nil).out.mono ?_;rintro e w28 ⟨rfl,x5⟩;refine hKK _ _ x5 ?_;clear hKK;refine ptm ?_;refine Xtk 11 ?_;refine Xdn fun w29 hE6 hK6=>?_;have X29:=lh (X26.out.trans hK6.nil);have SA4:=lh (SA3.out.ext hK6.nil);have SB4:=lh (SB3.out.ext hK6.nil);clear k0 k1 k2 k3 k4 k5 k6 k7 HQS hE4 hK4 x5 hE6 hK6 X26 SA3 SB3;have hsx1:(nt++t1).all (symV rn)=true:=by rw[List.all_append,HSN.out,HS1.out];rfl
 have hsx2:(nt++t2).all (symV rn)=true:=by rw[List.all_append,HSN.out,HS2.out];rfl
 have HC1:=lh hsx1;have HC2:=lh hsx2;have HC3:Hid ((nt++t1++nt).all (symV rn)=true):=lh (by rw[List.all_append,hsx1,HSN.out];rfl);have HC4:Hid ((nt++t2++nt).all (symV rn)=true):=lh (by rw[List.all_append,hsx2,HSN.out];rfl);have HN1:Hid ((nt++t1).length≤20∧(nt++t1++nt).length≤26):=lh (by simp only[List.length_append];omega);have HN2:Hid ((nt++t2).length≤20∧(nt++t2++nt).length≤26):=lh (by simp only[List.length_append];omega);clear hsx1 hsx2;have J1:=lh ((HOK20.out.ext (HX22.out.trans X29.out)).join (SX.out.ext X29.out) KX.out SA4.out KA1.out HSN.out HS1.out om)
 go_upto_region 33 with(go_at_call 27;refine J1.out.mono ?_;rintro e w30 ⟨gc,sc2,rfl,hc2,kc2',y30⟩)
 have X30:=lh (X29.out.trans y30);have SC1:=lh hc2;have KC1:=lh kc2';have SB5:=lh (SB4.out.ext y30);clear J1 hc2 kc2' y30 X29 SA4 SB4;have J2:=lh ((HOK20.out.ext (HX22.out.trans X30.out)).join (SX.out.ext X30.out) KX.out SB5.out KB1.out HSN.out HS2.out om)
 go_upto_region 34 with(go_at_call 27;refine J2.out.mono ?_;rintro e w31 ⟨gd,sd,rfl,hd,kd,y31⟩)
 have X31:=lh (X30.out.trans y31);have SC2:=lh (SC1.out.ext y31);have SD1:=lh hd;have KD1:=lh kd;clear J2 hd kd y31 X30 SC1 SB5;have J3:=lh ((HOK20.out.ext (HX22.out.trans X31.out)).join SC2.out KC1.out (SX.out.ext X31.out) KX.out HC1.out HSN.out (by have:=HN1.out;omega))
 go_upto_region 35 with(go_at_call 27;refine J3.out.mono ?_;rintro e w32 ⟨ge,se,rfl,he,ke,y32⟩)
 have X32:=lh (X31.out.trans y32);have SD2:=lh (SD1.out.ext y32);have SE1:=lh he;have KE1:=lh ke;clear J3 he ke y32 X31 SD1 SC2;have J4:=lh ((HOK20.out.ext (HX22.out.trans X32.out)).join SD2.out KD1.out (SX.out.ext X32.out) KX.out HC2.out HSN.out (by have:=HN2.out;omega))
 go_upto_region 36 with(go_at_call 27;refine J4.out.mono ?_;rintro e w33 ⟨gf,sf,rfl,hf,kf,y33⟩)
 have X33:=lh (X32.out.trans y33);have SE2:=lh (SE1.out.ext y33);have SF1:=lh hf;have KF1:=lh kf;clear J4 hf kf y33 X32 SE1 SD2;obtain⟨F1,hF1⟩:∃F,F=foundG (insL hs) (stsOf xs) m5.opn (nt++t1++nt) false:=⟨_,rfl⟩;obtain⟨F2,hF2⟩:∃F,F=foundG (insL hs) (stsOf xs) m5.opn (nt++t2++nt) false:=⟨_,rfl⟩;have L1:=(HOK20.out.ext (HX22.out.trans X33.out)).found SE2.out KE1.out HC3.out (by have:=HN1.out;omega)
 rw[←hF1] at L1;have HL1:=lh L1;have L2:=fun(w':World) (y:Ext w33 w')=>(HOK20.out.ext (HX22.out.trans (X33.out.trans y))).found (SF1.out.ext y) KF1.out HC4.out (by have:=HN2.out;omega)
 rw[←hF2] at L2;have HL2:=fun(w':World) (y:Ext w33 w')=>lh (L2 w' y);have HFF:=lh (⟨hF1,hF2⟩:F1=foundG (insL hs) (stsOf xs) m5.opn (nt++t1++nt) false∧F2=foundG (insL hs) (stsOf xs) m5.opn (nt++t2++nt) false);clear L1 L2 hF1 hF2
 go_upto_region 37 with(go_at_call 28;refine HL1.out.mono ?_;rintro e w34 ⟨V1,e1,rfl,f1,y34⟩)
 go_upto_region 38 with(go_at_call 28;refine(HL2 w34 y34).out.mono ?_;rintro e w35 ⟨V2,e2,rfl,f2,y35⟩)
 have U1:=lh (f1.ext y35);have U2:=lh f2;have Y35:=lh (y34.trans y35);clear f1 f2 y34 y35 HL1 HL2
 try(have hex:=MachOf.exch HOK20.out.mo HSM.out.symm nt nt (HOK20.out.syms HSN.out).2;have hfe:F1=F2:=HFF.out.1.trans ((found_same hex false).trans HFF.out.2.symm);have HP1:=lh (show Calls Tryz.prog 32 #[.slice V1 F1.length e1,.slice V2 F2.length e2] w35 (RetV (.bool true) w35) by(have h:=sameSpans_any V1 V2 e1 e2 F1 F2 w35 U1.out U2.out;rwa [decide_eq_true hfe] at h));have HP2:=fun(w':World) (y:Ext w33 w')=>lh (show Calls Tryz.prog 33 #[.pointer (some ⟨ge,0,none⟩),.pointer (some ⟨gf,0,none⟩)] w' (RetV (.bool true) w') by(have h:=equalS_any w' ge gf se sf (SE2.out.ext y) (SF1.out.ext y) (by rw[KE1.out.mch,KF1.out.mch]);rwa [MachOf.same HOK20.out.mo KE1.out KF1.out (HOK20.out.syms HC3.out).2 (HOK20.out.syms HC4.out).2,hex] at h));clear hfe hex)
 have s0:=lh (Ext.rfl' w35)
 go_wp2_with (first|(have hq:=s1;go_at_call 33;refine(HP2 _ (Y35.out.trans s1.out)).out.mono ?_;rintro e w37 ⟨rfl,y37⟩;have s2:=lh (s1.out.trans y37))|(go_at_call 32;refine HP1.out.mono ?_;rintro e w36 ⟨rfl,y36⟩;have s1:=lh y36))
 go_roundw
 case rel=>exact⟨j+1,by go_num,om,X33.out.trans (Y35.out.trans (by first|exact s2.out|exact s0.out))⟩
 case measure=>simp[intOf];omega):P:=h
theorem monoidEqual_any (w:World)(LA:Option Addr)(lc:Nat)(ls:List Int)(MA:Option Addr)(mc:Nat)(ms:List Int)(KA:Option Addr)(kc:Nat)(ks:List Int)(NA:Option Addr)(nc:Nat)(ns:List Int)(plain:Bool)(hl:IL w LA lc ls)(hm:IL w MA mc ms)(hk:IL w KA kc ks)(hn:IL w NA nc ns) :
 Calls Tryz.prog 5 #[.slice LA ls.length lc,.slice MA ms.length mc,.slice KA ks.length kc,.slice NA ns.length nc,.bool plain] w (RetV (.bool true) w):=by
 have hll:=hl.len;have hmm:=hm.len;have hkk:=hk.len;have hnn:=hn.len;have HSO:=lh (qsome_any w LA lc ls MA mc ms plain hl hm);have HKI:=lh hk;have HNI:=lh hn;clear hl hm hk hn;go_enter Tryz.func5,Tryz.ntmps5
 go_upto_region 2 with(go_at_call 24;refine HSO.out.mono ?_;rintro e w1 ⟨A,c,hs,cp,rn,TA,tc,ts,rfl,hg,hcp,hT,htb,htl,x1⟩)
 have E2:=Ext.alloc w1 (.cells #[.slice A hs.length c,.int .i64 cp,.bool rn] 33);have B2:=Blk.new w1 33 #[.slice A hs.length c,.int .i64 cp,.bool rn];change Code.wp _ _ _ _ (w1.alloc (.cells #[.slice A hs.length c,.int .i64 cp,.bool rn] 33));have D:=lh ((hg.gd rim0.1 rim0.2).ext E2);have HT2:=lh (hT.ext E2);have HTS:=lh htb;have HX2:=lh (x1.trans E2);have hl2:=hg.pl.len;have ht2:=hT.len;obtain⟨g11,hg11⟩:∃g,g=w1.heap.size:=⟨_,rfl⟩
 rw[←hg11] at B2 ⊢;clear hg11 hg hcp hT htb x1 HSO E2;generalize w1.alloc (.cells #[.slice A hs.length c,.int .i64 cp,.bool rn] 33)=w2 at *;obtain⟨v0,v1,v2,_⟩:=B2.c3;have HR10:=lh (real_any w2 A c hs cp rn D.out.pl D.out.len);clear B2
 go_upto_region 3 with(first|(have hq:=HRL;go_at_call 20;refine(new_any2 w15 A15 c15 hs rn cp HP15.out D.out.sm).mono ?_;rintro e w16 ⟨x16,hN⟩;have HX16:=lh (HRL.out.trans x16);have u0:=x16.cell t0;have u1:=x16.cell t1;have u2:=x16.cell t2;clear x16;rcases hN with⟨hn0,rfl⟩|⟨hn0,g5,m5,s5,R5,rfl,hg5,hok5⟩)|(go_at_call 21;refine HR10.out.mono ?_;rintro e w15 ⟨A15,c15,rfl,hp15,x15⟩;have HRL:=lh x15;have HP15:=lh hp15;have t0:=x15.cell v0;have t1:=x15.cell v1;have t2:=x15.cell v2;clear x15 hp15))
 ·go_upto_region 4 with(go_at_call 22;refine(qNew_any w16 A c hs rn cp (D.out.pl.ext HX16.out) D.out.sm).mono ?_;rintro e w17 ⟨x17,hQ⟩;have HX17:=lh (HX2.out.trans (HX16.out.trans x17));clear x17;rcases hQ with⟨hq0,rfl⟩|⟨hq0,SA,sc,xs,YA,yc,OA,oc,op,rfl,_⟩<;>first|exact absurd hq0 hn0|unfold mchV)
  have hb2:(newE rn cp (insL hs) != 0)=true:=by simpa using hn0
  clear u0 u1 u2
  go_wp2_with (go_at_call 23;refine(mlives_any _).mono ?_;rintro e w19 ⟨rfl,x19⟩;have HXE:=lh (HX17.out.trans ((Ext.alloc _ _).trans x19)))
  go_ret
  exact⟨rfl,HXE.out⟩
 ·have HOK:=lh hok5;clear hok5
  go_upto_region 4 with(go_at_call 22;refine(qNew_any w16 A c hs rn cp (D.out.pl.ext HX16.out) D.out.sm).mono ?_;rintro e w17 ⟨x17,hQ⟩;have HX17:=lh (HX16.out.trans x17);have HOK:=lh (HOK.out.ext x17);rcases hQ with⟨hq0,rfl⟩|⟨hq0,SA,sc,xs,YA,yc,OA,oc,op,rfl,hLN,hYY,hOO,hGO,hst,hop⟩<;>first|exact absurd hn0 hq0|unfold mchV)
  obtain⟨hRe,hOe⟩:=found_alike HOK.out hst hop;subst hRe;subst hOe;have E18:=Ext.alloc w17 (.cells #[.slice A hs.length c,.int .i64 cp,.bool rn,.slice SA xs.length sc,.slice YA (symsR rn (insL hs)).length yc,.slice OA m5.opn.length oc] 53);have B18:=Blk.new w17 53 #[.slice A hs.length c,.int .i64 cp,.bool rn,.slice SA xs.length sc,.slice YA (symsR rn (insL hs)).length yc,.slice OA m5.opn.length oc];obtain⟨g15,hg15⟩:∃g,g=w17.heap.size:=⟨_,rfl⟩
  rw[←hg15] at B18 ⊢;have X218:=HX17.out.trans E18;have HX18:=lh (HX2.out.trans X218);have HT18:=lh (HT2.out.ext X218);have HP18:=lh (D.out.pl.ext X218);have HOK18:=lh (HOK.out.ext E18);have HLN:=lh (hLN.ext E18);have HSTO:Hid (∀z∈xs,StOk hs.length z.l):=lh (fun z hz=>stsG_ok hGO hst _ (List.mem_map_of_mem hz));have hLl:=hLN.len;have hOl:=hOO.len;have hYl:=hYY.len;have HGO:=lh hGO;have HB18:=lh B18;clear hg15 E18 B18 X218 HX17 HX16 HX2 HT2 D HOK hLN hYY hOO hst hop hGO u0 u1 u2 HR10 HP15 HRL hn0 hq0;generalize w17.alloc (.cells #[.slice A hs.length c,.int .i64 cp,.bool rn,.slice SA xs.length sc,.slice YA (symsR rn (insL hs)).length yc,.slice OA m5.opn.length oc] 53)=w18 at *;have HTX:=lh (rText_any KA kc ks ts.length w18 (HKI.out.ext HX18.out) om);have hxb:=rtext_bd ks ts.length;have hxl:=rtext_len ks ts.length;generalize rtext ks ts.length=kt at *
  go_upto_region 7 with(go_at_call 25;refine HTX.out.mono ?_;rintro e w19 ⟨KA2,kc2,rfl,hK2,x19,hfr⟩)
  have HK19:=lh hK2;have HX19:=lh x19;have HXB:=lh hxb;have hk2:=hK2.len;clear hK2 x19 hfr hxb HTX
  go_upto_region 9 with fail
  go_loopw [18,19] (fun v18 v19 wr=>∃(i:Nat) (B:Option Addr) (d:Nat) (li:List Int),v18=.slice B li.length d∧v19=.int .i64 i∧i≤ts.length∧Hid (li.length=i)∧Hid (∀z∈li,0≤z∧z≤200)∧Hid (OwnI wr w19.heap.size 3 B d li)∧Ext w19 wr) (fun _ v _=>ts.length-(intOf v).toNat)
  case atStart=>exact⟨0,none,0,[],rfl,rfl,om,lh rfl,lh si,lh (OwnS.nil _ _ _ _),Ext.rfl' _⟩
  case round=>
   obtain⟨i,B,d,li,rfl,rfl,hi,HLI,HLB,HLO,x1⟩:=hrel;by_cases hlt:i<ts.length
   ·have hltI:(i:Int)<(ts.length:Int):=om;obtain⟨tb,tof,hTA,gx0⟩:=(HT18.out.ext HX19.out).get hlt;have gx:=x1.cell gx0;have htAi:=lh hTA;rw[hTA];clear hTA;have hxb:=HTS.out _ (List.getElem_mem hlt);generalize ts[i]=x at *;have HLC:=OwnS.caps HLO.out;have HX1:=lh x1;obtain⟨ys,HYS⟩:∃ys,Hid (ys=li++[x]):=⟨_,lh rfl⟩;have EA:=Ext.alloc wr (.cells #[.int .i64 x] 3)
    go_upto_region 12 with(at_builtin;refine wpList_app1I (w1:=wr) rfl _ _ _ rfl 3 infoInt Tryz.underlying22 w19 HX1.out x rfl B d li rfl HLO.out rfl (by have:=HLI.out;omega) ys HYS.out ?_;intro A3 c3 w22 ho3 x22 hgr _)
    have gx2:=x22.cell gx0;have HO3:=lh ho3;have HX22:=lh x22;clear ho3 hgr EA gx gx0 HLO HX1 x1 x22;have HB1:Hid (∀z∈ys,0≤z∧z≤200):=lh (by rw[HYS.out];exact like_bd li HLB.out hxb);have HL1:Hid (ys.length=i+1):=lh (by rw[HYS.out,List.length_append,HLI.out];rfl);have hyl:i<ys.length:=by have:=HL1.out;omega
    obtain⟨gl,hA3,hbg,cl,fl,hltl,hst⟩:=OwnS.store HO3.out (i:=i) (by rw[List.length_map];exact hyl);subst hA3;obtain⟨zs,HZS⟩:∃zs,Hid (zs=li++[(65:Int)]):=⟨_,lh rfl⟩;have HB2:Hid (∀z∈zs,0≤z∧z≤200):=lh (by rw[HZS.out];exact like_bd li HLB.out om);have HL2:Hid (zs.length=i+1):=lh (by rw[HZS.out,List.length_append,HLI.out];rfl);have HOZ:Hid (OwnI (w22.setCell ⟨gl,i,none⟩ (.int .i64 65)) w19.heap.size 3 (some ⟨gl,0,none⟩) c3 zs):=lh (by
     have h:=hst (.int .i64 65);unfold OwnI;have e1:zs.length=ys.length:=by rw[HL1.out,HL2.out]
     have e2:(ys.map (Value.int .i64)).set i (.int .i64 65)=zs.map (Value.int .i64):=by
      rw[HYS.out,HZS.out,List.map_append,List.map_append,List.set_append_right _ _ (by rw[List.length_map,HLI.out];omega),List.length_map,HLI.out]
      simp
     rw[e1,←e2];exact h)
    have HXZ:=lh (HX22.out.setNew (p:=⟨gl,i,none⟩) hbg (.int .i64 65));have hc3:=OwnS.caps HO3.out;have hLLy:(ys.length:Int)=(i:Int)+1:=by have:=HL1.out;omega
    have hLLz:zs.length=ys.length:=by have:=HL1.out;have:=HL2.out;omega
    have HLZ:=lh hLLz;clear hst hLLz hLLy;by_cases h10:x=10
    ·have hh1:(x == 10)=true:=by simpa using h10
     clear h10;exact doS
    ·have hh1:(x == 10)=false:=by simpa using h10
     clear h10;by_cases h32:x=32
     ·have hh2:(x == 32)=true:=by simpa using h32
      clear h32;exact doS
     ·have hh2:(x == 32)=false:=by simpa using h32
      clear h32;by_cases h200:x=200
      ·have hh3:(x == 200)=true:=by simpa using h200
       clear h200;exact doS
      ·have hh3:(x == 200)=false:=by simpa using h200
       clear h200 cl fl hltl
       go_wp2_with fail
       go_roundw
       case rel=>exact⟨i+1,_,c3,ys,rfl,by go_num,om,HL1,HB1,HO3,HX22.out⟩
       case measure=>simp[intOf];omega
   ·have hltI:¬(i:Int)<(ts.length:Int):=om;have HIT:=lh ((HT18.out.ext HX19.out).ext x1);have HIK:=lh (HK19.out.ext x1);have HIL:=lh (IL.of_own HLO.out (fun z hz=>I64_of (by have:=HLB.out z hz;omega)));have hlc:=HIL.out.len;have hln:li.length≤12:=by have:=HLI.out;omega
    have X18:=HX19.out.trans x1;have E20:=Ext.alloc wr (.cells #[.slice TA ts.length tc,.slice KA2 kt.length kc2,.slice B li.length d,.slice none 0 0] 22);have B20:=Blk.new wr 22 #[.slice TA ts.length tc,.slice KA2 kt.length kc2,.slice B li.length d,.slice none 0 0];have HTT:Hid (∀i,i<4→∃(T:Option Addr) (d':Nat) (t:List Int),(#[.slice TA ts.length tc,.slice KA2 kt.length kc2,.slice B li.length d,.slice none 0 0]:Array Value)[i]? = some (.slice T t.length d')∧IL (wr.alloc (.cells #[.slice TA ts.length tc,.slice KA2 kt.length kc2,.slice B li.length d,.slice none 0 0] 22)) T d' t∧t.all (symV rn)=true∧t.length≤14):=lh (fun i hi=>by
     have h3:i=0∨i=1∨i=2∨i=3:=om;rcases h3 with rfl|rfl|rfl|rfl
     ·exact⟨TA,tc,ts,rfl,HIT.out.ext E20,sym_small HTS.out,om⟩
     ·exact⟨KA2,kc2,kt,rfl,HIK.out.ext E20,sym_small HXB.out,om⟩
     ·exact⟨B,d,li,rfl,HIL.out.ext E20,sym_small HLB.out,om⟩
     ·exact⟨none,0,[],rfl,IL.nil _,by simp,by simp⟩)
    obtain⟨gT,hgT⟩:∃g,g=wr.heap.size:=⟨_,rfl⟩
    go_upto_region 15 with fail
    rw[←hgT] at B20 ⊢;have X1820:=X18.trans E20;have HX20:=lh (HX18.out.trans X1820);have HP20:=lh (HP18.out.ext X1820);have HOK20:=lh (HOK18.out.ext X1820);have HLN20:=lh (HLN.out.ext X1820);have HB15:=lh (HB18.out.ext X1820);have HB20:=lh B20;have HTN:=lh (rText_any NA nc ns 6 (wr.alloc (.cells #[.slice TA ts.length tc,.slice KA2 kt.length kc2,.slice B li.length d,.slice none 0 0] 22)) (HNI.out.ext HX20.out) om);clear hgT E20 B20 X1820 X18 HX18 HT18 HP18 HOK18 HLN HB18 HIT HIK HIL HLO HLI HLB HK19 HX19 HXB HTS x1;generalize wr.alloc (.cells #[.slice TA ts.length tc,.slice KA2 kt.length kc2,.slice B li.length d,.slice none 0 0] 22)=w20 at *;have hnb:=rtext_bd ns 6;have hnl:=rtext_len ns 6;generalize rtext ns 6=nt at *
    go_upto_region 16 with(go_at_call 25;refine HTN.out.mono ?_;rintro e w21 ⟨NA2,nc2,rfl,hN2,x21,hfr2⟩)
    have HSN:=lh (sym_small (rn:=rn) hnb);have HOB:=lh ((HOK20.out.ext x21).of hN2 HSN.out om);have HX21:=lh x21;clear hnb hN2 x21 hfr2 HTN
    go_upto_region 17 with(go_at_call 26;refine HOB.out.mono ?_;rintro e w22 ⟨gx,sx,rfl,hx,kx,y22⟩)
    have HX22:=lh (HX21.out.trans y22);have SX:=lh hx;have KX:=lh kx;clear hx kx y22 HOB HX21
    go_upto_region 20 with fail
    go_loopw [24] (fun v wr=>∃i:Nat,v=.int .i64 i∧i≤4∧Ext w22 wr) (fun v _=>4-(intOf v).toNat)
    case atStart=>exact⟨0,rfl,om,Ext.rfl' _⟩
    case round=>
     obtain⟨i,rfl,hi,x1⟩:=hrel;by_cases hlt:i<4
     ·have hltI:(i:Int)<4:=om
      go_upto_region 23 with fail
      go_loopw [25] (fun v wm=>∃j:Nat,v=.int .i64 j∧j≤4∧Ext w22 wm) (fun v _=>4-(intOf v).toNat)
      case atStart=>exact⟨0,rfl,om,x1⟩
      case round=>
       clear x1;obtain⟨j,rfl,hj,x1⟩:=hrel;by_cases hltj:j<4
       ·have hltJ:(j:Int)<4:=om;obtain⟨T1,d1,t1,e1,hI1,hs1,hn1⟩:=HTT.out i hlt;obtain⟨T2,d2,t2,e2,hI2,hs2,hn2⟩:=HTT.out j hltj;have X20:=HX22.out.trans x1;have z1:wr.cell? ⟨gT,i,none⟩=some (.slice T1 t1.length d1):=((HB20.out.ext X20).cell i).trans e1;have z2:wr.cell? ⟨gT,j,none⟩=some (.slice T2 t2.length d2):=((HB20.out.ext X20).cell j).trans e2;have hd1:=hI1.len;have hd2:=hI2.len;have HI1:=lh hI1;have HI2:=lh hI2;have HS1:=lh hs1;have HS2:=lh hs2;have HX:=lh x1;obtain⟨sm,hsm⟩:∃sm,sm=sameG (insL hs) (stsOf xs) t1 t2:=⟨_,rfl⟩;have HSM:=lh hsm;clear hI1 hI2 hs1 hs2 e1 e2 hsm X20 x1;have HO1:=lh ((HOK20.out.ext (HX22.out.trans HX.out)).of (HI1.out.ext (HX22.out.trans HX.out)) HS1.out om)
        go_upto_region 26 with(go_at_call 26;refine HO1.out.mono ?_;rintro e w24 ⟨ga,sa,rfl,ha,ka,y24⟩)
        have X24:=lh (HX.out.trans y24);have HO2:=lh ((HOK20.out.ext (HX22.out.trans X24.out)).of (HI2.out.ext (HX22.out.trans X24.out)) HS2.out om);replace z1:=y24.cell z1;replace z2:=y24.cell z2;have SA1:=lh ha;have KA1:=lh ka;clear ha ka y24 HO1
        go_upto_region 27 with(go_at_call 26;refine HO2.out.mono ?_;rintro e w25 ⟨gb,sb,rfl,hb,kb,y25⟩)
        have X25:=lh (X24.out.trans y25);replace z1:=y25.cell z1;replace z2:=y25.cell z2;have SA2:=lh (SA1.out.ext y25);have SB2:=lh hb;have KB1:=lh kb;clear hb kb y25 HO2 SA1 X24
        go_upto_region 29 with fail
        have HEQ:=lh (show Calls Tryz.prog 33 #[.pointer (some ⟨ga,0,none⟩),.pointer (some ⟨gb,0,none⟩)] w25 (RetV (.bool sm) w25) by
         have h:=equalS_any w25 ga gb sa sb SA2.out SB2.out (by rw[KA1.out.mch,KB1.out.mch])
         rwa [MachOf.same HOK20.out.mo KA1.out KB1.out (HOK20.out.syms HS1.out).2 (HOK20.out.syms HS2.out).2,←HSM.out] at h)
        go_upto_region 30 with(go_at_call 33;refine HEQ.out.mono ?_;rintro e w26 ⟨rfl,y26⟩)
        have X26:=lh (X25.out.trans y26);replace z1:=y26.cell z1;replace z2:=y26.cell z2;have SA3:=lh (SA2.out.ext y26);have SB3:=lh (SB2.out.ext y26);clear y26 HEQ X25 SA2 SB2;have HQS:=fun(w':World) (y:Ext w26 w')=>lh (show Calls Tryz.prog 34 #[.agg #[.slice A hs.length c,.int .i64 cp,.bool rn,.slice SA xs.length sc,.slice YA (symsR rn (insL hs)).length yc,.slice OA m5.opn.length oc],.slice T1 t1.length d1,.slice T2 t2.length d2] w' (RetV (.bool sm) w') by
         have x2:=HX22.out.trans (X26.out.trans y);have h:=qsame_any A c hs rn cp HGO.out w' (HP20.out.ext x2) SA sc xs (HLN20.out.ext x2) YA (symsR rn (insL hs)).length yc OA m5.opn.length oc HSTO.out T1 d1 t1 (HI1.out.ext x2) T2 d2 t2 (HI2.out.ext x2) om;unfold mchV at h
         rwa [←HSM.out] at h)
        have HB:=HB15.out.ext (HX22.out.trans X26.out);have q0:w26.cell? ⟨g15,0,none⟩=some (.slice A hs.length c):=HB.cell 0;have q1:w26.cell? ⟨g15,1,none⟩=some (.int .i64 cp):=HB.cell 1;have q2:w26.cell? ⟨g15,2,none⟩=some (.bool rn):=HB.cell 2;have q3:w26.cell? ⟨g15,3,none⟩=some (.slice SA xs.length sc):=HB.cell 3;have q4:w26.cell? ⟨g15,4,none⟩=some (.slice YA (symsR rn (insL hs)).length yc):=HB.cell 4;have q5:w26.cell? ⟨g15,5,none⟩=some (.slice OA m5.opn.length oc):=HB.cell 5;clear HB;cases sm
        ·exact doR
        ·exact doR
       ·have hltJ:¬(j:Int)<4:=om
        go_wp2_with fail
        go_roundw
        case rel=>exact⟨i+1,by go_num,om,x1⟩
        case measure=>simp[intOf];omega
     ·have hltI:¬(i:Int)<4:=om
      go_wp2_with (go_at_call 23;refine(mlives_any wr).mono ?_;rintro e w5 ⟨rfl,x5⟩;have HXE:=HX20.out.trans (HX22.out.trans (x1.trans x5)))
      go_ret
      exact⟨rfl,HXE⟩
end
end Go.Proofs.YtmocoldobnimfaaGreat
