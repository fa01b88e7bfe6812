/- Texts of this proof: DH. -/
import Derived.Test.YtmocoldobnimfaaGreatU17
import Derived.Test.YtmocoldobnimfaaGreatU51
import Derived.Test.YtmocoldobnimfaaGreatU53
set_option linter.all false
set_option maxRecDepth 100000
set_option maxHeartbeats 16000000
namespace Go.Proofs.YtmocoldobnimfaaGreat
section
open Go.RowKit
attribute [local go_sem ↓] Go.wp_at_zero Go.wp_at_succ
theorem sym_small {rn:Bool}{ts:List Int}(h:∀x∈ts,0≤x∧x≤200):ts.all (symV rn)=true:=
 List.all_eq_true.2 fun x hx=>by
  have:=h x hx;unfold symV
  cases rn<;>simp<;>omega
theorem found_alike {w:World}{runes:Bool}{caps:Int}{G:List Ins}{g:Nat}{m:Ma}{strt:List Sp}{R sts:List St}{op:List Bool}(h:NewOk w runes caps G g m strt R)(hs:stsG G (symsR runes G)=some sts)(ho:OpnL G (symsR runes G) sts op):R=sts∧m.opn=op:=by
 have e:=h.sts;rw[stsG_alike h.ok,hs] at e;injection e with e
 subst e;exact⟨rfl,OpnL.uniq h.opn ((opnL_PR h.ok).2 ho)⟩
theorem dhR {P:Prop}(h:P:=by
 clear hd HO3;have X24:=lh (X23.out.trans y24);have HA24:=lh (HA23.out.ext y24);have HJ:=lh ((HOK20.out.ext X24.out).join (HB23.out.ext y24) HKB.out hc3 kc3 HLL.out.2.2.1 HLL.out.2.2.2 (by rw[HLL.out.1,HLL.out.2.1];omega));rw[List.take_append_drop] at HJ;clear hc3 kc3 y24 HA23 HB23 HKB
 go_upto_region 18 with(go_at_call 27;refine HJ.out.mono ?_;rintro e w25 ⟨gj,sj,rfl,hj,kj,y25⟩)
 have X25:=lh (X24.out.trans y25);have HA25:=lh (HA24.out.ext y25);have HJ25:=lh hj;have HKJ:=lh kj;clear hj kj HJ y25 HA24
 go_upto_region 20 with fail
 obtain⟨F,hF⟩:∃F,F=foundG (insL hs) (stsOf xs) m5.opn t false:=⟨_,rfl⟩;obtain⟨S,hS⟩:∃S,S=foundG (insL hs) (stsOf xs) m5.opn t true:=⟨_,rfl⟩;have HF1:=fun(w':World) (x:Ext w25 w')=>lh ((HOK20.out.ext (X25.out.trans x)).found (HA25.out.ext x) HKA.out HSY.out om);have HF2:=fun(w':World) (x:Ext w25 w')=>lh ((HOK20.out.ext (X25.out.trans x)).found (HJ25.out.ext x) HKJ.out HSY.out om);have HS1:=fun(w':World) (x:Ext w25 w')=>lh ((HOK20.out.ext (X25.out.trans x)).sure (HA25.out.ext x) HKA.out HSY.out om);have HS2:=fun(w':World) (x:Ext w25 w')=>lh ((HOK20.out.ext (X25.out.trans x)).sure (HJ25.out.ext x) HKJ.out HSY.out om);have HQ:=fun(w':World) (x:Ext w25 w') (b:Bool)=>lh (rfound_any A c hs rn cp HGO.out w' (HP20.out.ext (X25.out.trans x)) SA sc xs (HLN20.out.ext (X25.out.trans x)) YA (symsR rn (insL hs)).length yc OA oc m5.opn (HOO20.out.ext (X25.out.trans x)) HOL.out T d t (HT.out.ext (X25.out.trans x)) om b);have HQ1:=fun(w':World) (x:Ext w25 w')=>HQ w' x false;have HQ2:=fun(w':World) (x:Ext w25 w')=>HQ w' x true
 rw[←hF] at HF1 HF2 HQ1
 rw[←hS] at HS1 HS2 HQ2;clear HQ hF hS;unfold mchV at HQ1 HQ2
 go_upto_region 21 with(go_at_call 28;refine(HF1 _ (Ext.rfl' _)).out.mono ?_;rintro e w26 ⟨A1,c1,rfl,f1,y26⟩)
 go_upto_region 22 with(go_at_call 29;refine(HS1 _ y26).out.mono ?_;rintro e w27 ⟨A2,c2,rfl,f2,y27⟩)
 go_upto_region 23 with(go_at_call 28;refine(HF2 _ (y26.trans y27)).out.mono ?_;rintro e w28 ⟨A3,c3,rfl,f3,y28⟩)
 go_upto_region 24 with(go_at_call 29;refine(HS2 _ ((y26.trans y27).trans y28)).out.mono ?_;rintro e w29 ⟨A4,c4,rfl,f4,y29⟩)
 have Y29:=lh (((y26.trans y27).trans y28).trans y29);have F1:=lh (f1.ext ((y27.trans y28).trans y29));have F2:=lh (f2.ext (y28.trans y29));have F3:=lh (f3.ext y29);have F4:=lh f4;clear f1 f2 f3 f4 y26 y27 y28 y29 HF1 HF2 HS1 HS2;have HL1:=fun(w':World) (x:Ext w25 w')=>lh (show Calls Tryz.prog 30 #[.pointer (some ⟨ga,0,none⟩)] w' (RetV (.int .i64 (t.length:Int)) w') by
  have h:=len_any w' ga sa (HA25.out.ext x);have hl:=HKA.out.len;rw[List.length_map] at hl
  rwa [hl] at h)
 have HL2:=fun(w':World) (x:Ext w25 w')=>lh (show Calls Tryz.prog 30 #[.pointer (some ⟨gj,0,none⟩)] w' (RetV (.int .i64 (t.length:Int)) w') by
  have h:=len_any w' gj sj (HJ25.out.ext x);have hl:=HKJ.out.len;rw[List.length_map] at hl
  rwa [hl] at h)
 go_upto_region 26 with(first|(have hq:=z30;go_at_call 30;refine(HL2 _ z30.out).out.mono ?_;rintro e w31 ⟨rfl,y31⟩;have Y31:=lh (z30.out.trans y31))|(go_at_call 30;refine(HL1 _ Y29.out).out.mono ?_;rintro e w30 ⟨rfl,y30⟩;have z30:=lh (Y29.out.trans y30)))
 have HB:=HB15.out.ext (X25.out.trans Y31.out);have q0:w31.cell? ⟨g15,0,none⟩=some (.slice A hs.length c):=HB.cell 0;have q1:w31.cell? ⟨g15,1,none⟩=some (.int .i64 cp):=HB.cell 1;have q2:w31.cell? ⟨g15,2,none⟩=some (.bool rn):=HB.cell 2;have q3:w31.cell? ⟨g15,3,none⟩=some (.slice SA xs.length sc):=HB.cell 3;have q4:w31.cell? ⟨g15,4,none⟩=some (.slice YA (symsR rn (insL hs)).length yc):=HB.cell 4;have q5:w31.cell? ⟨g15,5,none⟩=some (.slice OA m5.opn.length oc):=HB.cell 5;clear HB HL1 HL2
 go_upto_region 27 with(go_at_call 31;refine(HQ1 _ Y31.out).out.mono ?_;rintro e w32 ⟨A5,c5,rfl,f5,y32⟩)
 replace q0:=y32.cell q0;replace q1:=y32.cell q1;replace q2:=y32.cell q2;replace q3:=y32.cell q3;replace q4:=y32.cell q4;replace q5:=y32.cell q5;have Y32:=lh (Y31.out.trans y32)
 go_upto_region 28 with(go_at_call 31;refine(HQ2 _ Y32.out).out.mono ?_;rintro e w33 ⟨A6,c6,rfl,f6,y33⟩)
 have Y33:=lh (Y32.out.trans y33);have Y2933:=((Y29.out.trans (Ext.rfl' _)));have SP:=fun(B1 B2:Option Addr) (d1 d2:Nat) (l:List Sp) (w':World) (h1:SL w' B1 d1 l) (h2:SL w' B2 d2 l)=>lh (show Calls Tryz.prog 32 #[.slice B1 l.length d1,.slice B2 l.length d2] w' (RetV (.bool true) w') by
  have h:=sameSpans_any B1 B2 d1 d2 l l w' h1 h2
  rwa [decide_eq_true rfl] at h)
 have z33:Ext w29 w33:=(y30.trans y31).trans (y32.trans y33);have P1:=fun(w':World) (x:Ext w33 w')=>SP A1 A5 c1 c5 F w' (F1.out.ext (z33.trans x)) (f5.ext (y33.trans x));have P2:=fun(w':World) (x:Ext w33 w')=>SP A3 A5 c3 c5 F w' (F3.out.ext (z33.trans x)) (f5.ext (y33.trans x));have P3:=fun(w':World) (x:Ext w33 w')=>SP A2 A6 c2 c6 S w' (F2.out.ext (z33.trans x)) (f6.ext x);have P4:=fun(w':World) (x:Ext w33 w')=>SP A4 A6 c4 c6 S w' (F4.out.ext (z33.trans x)) (f6.ext x);clear SP z33 f5 f6 y30 y31 y32 y33 Y2933 F1 F2 F3 F4 q0 q1 q2 q3 q4 q5 HQ1 HQ2
 go_wp2_with (first|(have hq:=s3;go_at_call 32;refine(P4 _ s3.out).out.mono ?_;rintro e w37 ⟨rfl,y37⟩;have s4:=lh (s3.out.trans y37))|(have hq:=s2;go_at_call 32;refine(P3 _ s2.out).out.mono ?_;rintro e w36 ⟨rfl,y36⟩;have s3:=lh (s2.out.trans y36))|(have hq:=s1;go_at_call 32;refine(P2 _ s1.out).out.mono ?_;rintro e w35 ⟨rfl,y35⟩;have s2:=lh (s1.out.trans y35))|(go_at_call 32;refine(P1 _ (Ext.rfl' _)).out.mono ?_;rintro e w34 ⟨rfl,y34⟩;have s1:=lh y34))
 go_roundw
 case rel=>exact⟨i+1,by go_num,om,X25.out.trans (Y33.out.trans s4.out)⟩
 case measure=>simp[intOf];omega):P:=h
theorem monoidFound_any (w:World)(LA:Option Addr)(lc:Nat)(ls:List Int)(MA:Option Addr)(mc:Nat)(ms:List Int)(KA:Option Addr)(kc:Nat)(ks:List Int)(plain:Bool)(cut:Int)(hl:IL w LA lc ls)(hm:IL w MA mc ms)(hk:IL w KA kc ks)(hc:I64 cut) :
 Calls Tryz.prog 4 #[.slice LA ls.length lc,.slice MA ms.length mc,.slice KA ks.length kc,.bool plain,.int .i64 cut] w (RetV (.bool true) w):=by
 have hll:=hl.len;have hmm:=hm.len;have hkk:=hk.len;have HSO:=lh (qsome_any w LA lc ls MA mc ms plain hl hm);have HKI:=lh hk;have HCU:=lh hc;clear hl hm hk hc;go_enter Tryz.func4,Tryz.ntmps4
 go_upto_region 2 with(go_at_call 24;refine HSO.out.mono ?_;rintro e w1 ⟨A,c,hs,cp,rn,TA,tc,ts,rfl,hg,hcp,hT,htb,htl,x1⟩)
 have E2:=Ext.alloc w1 (.cells #[.slice A hs.length c,.int .i64 cp,.bool rn] 33);have B2:=Blk.new w1 33 #[.slice A hs.length c,.int .i64 cp,.bool rn];change Code.wp _ _ _ _ (w1.alloc (.cells #[.slice A hs.length c,.int .i64 cp,.bool rn] 33));have D:=lh ((hg.gd rim0.1 rim0.2).ext E2);have HT2:=lh (hT.ext E2);have HTS:=lh htb;have HX2:=lh (x1.trans E2);have hl2:=hg.pl.len;have ht2:=hT.len;obtain⟨g11,hg11⟩:∃g,g=w1.heap.size:=⟨_,rfl⟩
 rw[←hg11] at B2 ⊢;clear hg11 hg hcp hT htb x1 HSO E2;generalize w1.alloc (.cells #[.slice A hs.length c,.int .i64 cp,.bool rn] 33)=w2 at *;obtain⟨v0,v1,v2,_⟩:=B2.c3;have HR10:=lh (real_any w2 A c hs cp rn D.out.pl D.out.len);clear B2
 go_upto_region 3 with(first|(have hq:=HRL;go_at_call 20;refine(new_any2 w15 A15 c15 hs rn cp HP15.out D.out.sm).mono ?_;rintro e w16 ⟨x16,hN⟩;have HX16:=lh (HRL.out.trans x16);have u0:=x16.cell t0;have u1:=x16.cell t1;have u2:=x16.cell t2;clear x16;rcases hN with⟨hn0,rfl⟩|⟨hn0,g5,m5,s5,R5,rfl,hg5,hok5⟩)|(go_at_call 21;refine HR10.out.mono ?_;rintro e w15 ⟨A15,c15,rfl,hp15,x15⟩;have HRL:=lh x15;have HP15:=lh hp15;have t0:=x15.cell v0;have t1:=x15.cell v1;have t2:=x15.cell v2;clear x15 hp15))
 ·go_upto_region 4 with(go_at_call 22;refine(qNew_any w16 A c hs rn cp (D.out.pl.ext HX16.out) D.out.sm).mono ?_;rintro e w17 ⟨x17,hQ⟩;have HX17:=lh (HX2.out.trans (HX16.out.trans x17));clear x17;rcases hQ with⟨hq0,rfl⟩|⟨hq0,SA,sc,xs,YA,yc,OA,oc,op,rfl,_⟩<;>first|exact absurd hq0 hn0|unfold mchV)
  have hb:(newE rn cp (insL hs) == 0)=false:=by simpa using hn0
  have hb2:(newE rn cp (insL hs) != 0)=true:=by simpa using hn0
  clear u0 u1 u2
  go_wp2_with (go_at_call 23;refine(mlives_any _).mono ?_;rintro e w19 ⟨rfl,x19⟩;have HXE:=lh (HX17.out.trans ((Ext.alloc _ _).trans x19)))
  go_ret
  exact⟨rfl,HXE.out⟩
 ·have HOK:=lh hok5;clear hok5
  go_upto_region 4 with(go_at_call 22;refine(qNew_any w16 A c hs rn cp (D.out.pl.ext HX16.out) D.out.sm).mono ?_;rintro e w17 ⟨x17,hQ⟩;have HX17:=lh (HX16.out.trans x17);have HOK:=lh (HOK.out.ext x17);rcases hQ with⟨hq0,rfl⟩|⟨hq0,SA,sc,xs,YA,yc,OA,oc,op,rfl,hLN,hYY,hOO,hGO,hst,hop⟩<;>first|exact absurd hn0 hq0|unfold mchV)
  obtain⟨hRe,hOe⟩:=found_alike HOK.out hst hop;subst hRe;subst hOe;have E18:=Ext.alloc w17 (.cells #[.slice A hs.length c,.int .i64 cp,.bool rn,.slice SA xs.length sc,.slice YA (symsR rn (insL hs)).length yc,.slice OA m5.opn.length oc] 53);have B18:=Blk.new w17 53 #[.slice A hs.length c,.int .i64 cp,.bool rn,.slice SA xs.length sc,.slice YA (symsR rn (insL hs)).length yc,.slice OA m5.opn.length oc];obtain⟨g15,hg15⟩:∃g,g=w17.heap.size:=⟨_,rfl⟩
  rw[←hg15] at B18 ⊢;have X218:=HX17.out.trans E18;have HX18:=lh (HX2.out.trans X218);have HT18:=lh (HT2.out.ext X218);have HP18:=lh (D.out.pl.ext X218);have HOK18:=lh (HOK.out.ext E18);have HLN:=lh (hLN.ext E18);have HOO:=lh (hOO.ext E18);have hol:m5.opn.length=xs.length:=by have:=hop.1;rw[stsOf_len] at this;exact this
  have HOL:=lh hol;have hLl:=hLN.len;have hOl:=hOO.len;have HGO:=lh hGO;have HB18:=lh B18;clear hg15 E18 B18 X218 HX17 HX16 HX2 HT2 D HOK hLN hYY hOO hst hop hGO hol u0 u1 u2 HR10 HP15 HRL hn0 hq0;generalize w17.alloc (.cells #[.slice A hs.length c,.int .i64 cp,.bool rn,.slice SA xs.length sc,.slice YA (symsR rn (insL hs)).length yc,.slice OA m5.opn.length oc] 53)=w18 at *;have HTX:=lh (rText_any KA kc ks 14 w18 (HKI.out.ext HX18.out) om);have hxb:=rtext_bd ks 14;have hxl:=rtext_len ks 14;generalize rtext ks 14=kt at *
  go_upto_region 8 with fail
  go_upto_region 9 with(go_at_call 25;refine HTX.out.mono ?_;rintro e w19 ⟨KA2,kc2,rfl,hK2,x19,hfr⟩)
  have E20:=Ext.alloc w19 (.cells #[.slice TA ts.length tc,.slice KA2 kt.length kc2,.slice none 0 0] 22);have B20:=Blk.new w19 22 #[.slice TA ts.length tc,.slice KA2 kt.length kc2,.slice none 0 0];have X1820:=x19.trans E20;have HTT:Hid (∀i,i<3→∃(T:Option Addr) (d:Nat) (t:List Int),(#[.slice TA ts.length tc,.slice KA2 kt.length kc2,.slice none 0 0]:Array Value)[i]? = some (.slice T t.length d)∧IL (w19.alloc (.cells #[.slice TA ts.length tc,.slice KA2 kt.length kc2,.slice none 0 0] 22)) T d t∧(∀x∈t,0≤x∧x≤200)∧t.length≤14):=lh (fun i hi=>by
   have h3:i=0∨i=1∨i=2:=om;rcases h3 with rfl|rfl|rfl
   ·exact⟨TA,tc,ts,rfl,HT18.out.ext X1820,HTS.out,om⟩
   ·exact⟨KA2,kc2,kt,rfl,hK2.ext E20,hxb,hxl⟩
   ·exact⟨none,0,[],rfl,IL.nil _,by simp,by simp⟩)
  obtain⟨gT,hgT⟩:∃g,g=w19.heap.size:=⟨_,rfl⟩
  rw[←hgT] at B20 ⊢;have HX20:=lh (HX18.out.trans X1820);have HP20:=lh (HP18.out.ext X1820);have HOK20:=lh (HOK18.out.ext X1820);have HLN20:=lh (HLN.out.ext X1820);have HOO20:=lh (HOO.out.ext X1820);have HB15:=lh (HB18.out.ext X1820);have HB20:=lh B20;clear hgT E20 B20 X1820 HX18 HT18 HP18 HOK18 HLN HOO HB18 HTX hxb hxl hK2 x19 hfr HTS;generalize w19.alloc (.cells #[.slice TA ts.length tc,.slice KA2 kt.length kc2,.slice none 0 0] 22)=w20 at *
  go_upto_region 10 with fail
  go_loopw [18] (fun v wr=>∃i:Nat,v=.int .i64 i∧i≤3∧Ext w20 wr) (fun v _=>3-(intOf v).toNat)
  case atStart=>exact⟨0,rfl,om,Ext.rfl' _⟩
  case round=>
   obtain⟨i,rfl,hi,x1⟩:=hrel;by_cases hlt:i<3
   ·obtain⟨T,d,t,h0,hT,hTb,hTl⟩:=HTT.out i hlt;have hltI:(i:Int)<3:=om;have z0:wr.cell? ⟨gT,i,none⟩=some (.slice T t.length d):=((HB20.out.ext x1).cell i).trans h0;have hTd:=hT.len;have hsym:=sym_small (rn:=rn) hTb;have HSY:=lh hsym;have HT:=lh hT;have ewl:IntKind.i64.wrap ((t.length:Int)+1)=(t.length:Int)+1:=wj;have HAR:=lh (around_any cut ((t.length:Int)+1) wr HCU.out om om);have hb2:=around_bd cut ((t.length:Int)+1) om;obtain⟨k,hk⟩:∃k:Nat,around cut ((t.length:Int)+1)=k:=⟨(around cut ((t.length:Int)+1)).toNat,om⟩;rw[hk] at HAR hb2;have hkl:k≤t.length:=om;clear hk hb2 hsym h0 hT hTb
    go_upto_region 14 with(go_at_call 17;refine HAR.out.mono ?_;rintro e w21 h21;obtain⟨rfl,y21⟩:=RetQ.v h21)
    have X21:=lh (x1.trans y21);clear HAR ewl h21 y21 z0;have HO1:=lh ((HOK20.out.ext X21.out).of (HT.out.ext X21.out) HSY.out om)
    go_upto_region 15 with(go_at_call 26;refine HO1.out.mono ?_;rintro e w22 ⟨ga,sa,rfl,ha,ka,y22⟩)
    have X22:=lh (X21.out.trans y22);have hl1:(t.take k).length=k:=by rw[List.length_take];omega
    have hl2:(t.drop k).length=t.length-k:=List.length_drop;have hs1:(t.take k).all (symV rn)=true:=List.all_eq_true.2 fun x hx=>List.all_eq_true.1 HSY.out x (List.mem_of_mem_take hx);have hs2:(t.drop k).all (symV rn)=true:=List.all_eq_true.2 fun x hx=>List.all_eq_true.1 HSY.out x (List.mem_of_mem_drop hx);have HO2:=lh ((HOK20.out.ext X22.out).of (IL.takeQ (HT.out.ext X22.out) hkl) hs1 om);have HLL:=lh (⟨hl1,hl2,hs1,hs2⟩:(t.take k).length=k∧(t.drop k).length=t.length-k∧(t.take k).all (symV rn)=true∧(t.drop k).all (symV rn)=true);rw[hl1] at HO2;have HA22:=lh ha;have HKA:=lh ka;have hk1:(k:Int)≤t.length:=om;have hk2:(k:Int)≤d:=om;clear hl1 hl2 hs1 hs2 ha ka HO1 y22
    go_upto_region 16 with(go_at_call 26;refine HO2.out.mono ?_;rintro e w23 ⟨gb,sb,rfl,hb,kb,y23⟩)
    have X23:=lh (X22.out.trans y23);have HA23:=lh (HA22.out.ext y23);have HB23:=lh hb;have HKB:=lh kb;have HO3:=lh ((HOK20.out.ext X23.out).of (IL.dropN (HT.out.ext X23.out) hkl) HLL.out.2.2.2 (by rw[HLL.out.2.1];omega));rw[HLL.out.2.1] at HO3;clear hb kb HO2 y23 HA22;by_cases hcc:d=k
    ·have hd:dropI T d k=T:=by unfold dropI;rw[if_pos hcc]
     rw[hd] at HO3;have hcz:(d:Int)=(k:Int):=om;replace hcc:=lh hcc
     go_upto_region 17 with(go_at_call 26;refine HO3.out.mono ?_;rintro e w24 ⟨gc,sc2,rfl,hc3,kc3,y24⟩)
     clear hcz;exact dhR
    ·have hd:dropI T d k=T.map (fun x=>x.add k):=by unfold dropI;rw[if_neg hcc]
     rw[hd] at HO3
     go_upto_region 17 with(go_at_call 26;refine HO3.out.mono ?_;rintro e w24 ⟨gc,sc2,rfl,hc3,kc3,y24⟩)
     clear hcc;exact dhR
   ·have h3:i=3:=om;subst h3
    go_wp2_with (go_at_call 23;refine(mlives_any wr).mono ?_;rintro e w5 ⟨rfl,x5⟩;have HXE:=HX20.out.trans (x1.trans x5))
    go_ret
    exact⟨rfl,HXE⟩
end
end Go.Proofs.YtmocoldobnimfaaGreat
