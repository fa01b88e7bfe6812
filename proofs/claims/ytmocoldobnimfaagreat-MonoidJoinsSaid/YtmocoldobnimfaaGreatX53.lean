/- Texts of this proof: DS. -/
import Derived.Test.YtmocoldobnimfaaGreatX51
import Derived.Test.YtmocoldobnimfaaGreatX52
set_option linter.all false
set_option maxRecDepth 100000
set_option maxHeartbeats 16000000
namespace Go.Proofs.YtmocoldobnimfaaGreat
section
open Go.RowKit
attribute [local go_sem ↓] Go.wp_at_zero Go.wp_at_succ
theorem sym_small1 {rn:Bool}{ts:List Int}(h:∀x∈ts,0≤x∧x≤200):ts.all (symV rn)=true:=
 List.all_eq_true.2 fun x hx=>by
  have:=h x hx;unfold symV
  cases rn<;>simp<;>omega
structure JI (m:Ma)(g:Nat)(cf:Int→Nat)(base:Nat)(w:World)(ts:List Int)(i gl gr:Nat)(sl sr:Sm)(A:Option Addr)(c:Nat)(ps:List (Nat×List Int)):Prop where
 l:SmAt w gl sl
 r:SmAt w gr sr
 kl:SumOf m g ((ts.take i).map cf) sl
 kr:SumOf m g ((ts.drop (ts.length-i)).map cf) sr
 own:OwnS w base 61 1 A i c (ptrs (ps.map Prod.fst))
 pa:PaM m g cf w ps
 fl:(ps.map Prod.snd).flatten=ts.take i
 len:ps.length=i
structure JP (m:Ma)(g:Nat)(cf:Int→Nat)(w:World)(ts:List Int)(A:Option Addr)(c:Nat)(ps:List (Nat×List Int)):Prop where
 at_:CellsAt w A (ptrs (ps.map Prod.fst))
 pa:PaM m g cf w ps
 fl:(ps.map Prod.snd).flatten=ts
theorem JP.ext {m:Ma}{g:Nat}{cf:Int→Nat}{w w':World}{ts:List Int}{A:Option Addr}{c:Nat}{ps:List (Nat×List Int)}(h:JP m g cf w ts A c ps)(x:Ext w w'):JP m g cf w' ts A c ps:=⟨h.at_.ext x,h.pa.ext x,h.fl⟩
theorem ptr_cell {w:World}{A:Option Addr}{ps:List (Nat×List Int)}(h:CellsAt w A (ptrs (ps.map Prod.fst)))(hn:ps≠[]):∃b o,A=some ⟨b,o,none⟩∧∀i (hi:i<ps.length),w.cell? ⟨b,o+i,none⟩=some (.pointer (some ⟨ps[i].1,0,none⟩)):=by
 obtain⟨b,o,rfl,hc⟩:=h (by simpa[ptrs] using hn);exact⟨b,o,rfl,fun i hi=>by have:=hc i (by simpa[ptrs] using hi);simpa[ptrs] using this⟩
theorem split_two {α:Type}(ps:List α)(q:Nat)(h:q+1<ps.length):ps=ps.take q++[ps[q],ps[q+1]]++ps.drop (q+2):=by
 have h1:ps.drop q=ps[q]::ps.drop (q+1):=List.drop_eq_getElem_cons om;have h2:ps.drop (q+1)=ps[q+1]::ps.drop (q+2):=List.drop_eq_getElem_cons om
 conv=>lhs;rw[←List.take_append_drop q ps,h1,h2]
 simp
theorem flat_two (ps:List (Nat×List Int))(q gs:Nat)(h:q+1<ps.length):((ps.take q++[(gs,ps[q].2++ps[q+1].2)]++ps.drop (q+2)).map Prod.snd).flatten=(ps.map Prod.snd).flatten:=by
 conv=>rhs;rw[split_two ps q h]
 simp only[List.map_append,List.map_cons,List.map_nil,List.flatten_append,List.flatten_cons,List.flatten_nil,List.append_nil,List.append_assoc]
theorem flat_mem {ps:List (Nat×List Int)}{ts:List Int}(h:(ps.map Prod.snd).flatten=ts){p:Nat×List Int}(hp:p∈ps):∀x∈p.2,x∈ts:=fun x hx=>by
 rw[←h];exact List.mem_flatten.2 ⟨p.2,List.mem_map_of_mem hp,hx⟩
theorem flat_two_len {ps:List (Nat×List Int)}{ts:List Int}(h:(ps.map Prod.snd).flatten=ts)(q:Nat)(hq:q+1<ps.length):ps[q].2.length+ps[q+1].2.length≤ts.length:=by
 rw[←h]
 conv=>rhs;rw[split_two ps q hq]
 simp only[List.map_append,List.map_cons,List.map_nil,List.flatten_append,List.flatten_cons,List.flatten_nil,List.append_nil,List.length_append];omega
theorem dsB {P:Prop}(h:P:=by
 have HX33:=lh (HXQ.out.trans (Ext.app HX32.out HO4.out hg5));have hc5:=OwnS.caps ho5;have HJ3:Hid (JP m5 g5 (clsF rn (insL hs) s5) w33 ts A5 c5 (ps2.take q++[(gs,t0++t1)]++ps2.drop (q+2))):=lh ⟨by
  have h:=OwnS.cells ho5
  rwa [show(ps2.take q).map Prod.fst++[gs]++(ps2.drop (q+2)).map Prod.fst=(ps2.take q++[(gs,t0++t1)]++ps2.drop (q+2)).map Prod.fst by simp] at h,
  ((((HJ2.out.pa.ext HX33.out).sub (fun z hz=>List.mem_of_mem_take hz)).snoc (HSS.out.ext (Ext.app HX32.out HO4.out hg5)) HKS.out).app ((HJ2.out.pa.ext HX33.out).sub (fun z hz=>List.mem_of_mem_drop hz))),HTT.out gs⟩
 have HL3:Hid ((ps2.take q++[(gs,t0++t1)]++ps2.drop (q+2)).length=n-1):=lh (by simp only[List.length_append,List.length_take,List.length_drop,List.length_cons,List.length_nil,HLN.out];omega);have HXF:=lh (hx2.out.trans HX33.out);go_roundw
 case rel=>exact⟨k+1,n-1,A5,c5,_,rfl,by go_num,om,HL3,hc5.1,hc5.2,HJ3,HXF.out⟩
 case measure=>simp[intOf];omega):P:=h
theorem dsE {P:Prop}(h:P:=by
 have XA:=lh (HX1.out.trans (x2.trans y40));have HOK40:=lh (HOK19.out.ext XA.out);have SW:=lh (SX19.out.ext XA.out);have SL:=lh (HGL.out.ext (x2.trans y40));have SR:=lh (HGR.out.ext (x2.trans y40));have HE2:=fun(w':World) (y:Ext w40 w')=>lh (empty_any w' g5 m5 _ s5 (HOK40.out.ext y).at_);clear x2 y40 HX1 HGL HGR
 go_upto_region 36 with(first|(have hq:=HEa;go_at_call 27;refine((HOK40.out.ext HEa.out).join (SW.out.ext HEa.out) KX.out he (show SumOf m5 g5 (([]:List Int).map (clsF rn (insL hs) s5)) se from ke) HSY.out rfl (by simp;omega)).mono ?_;rintro e w42 ⟨ga,sa,rfl,ha,ka,y42⟩)|(go_at_call 35;refine(HE2 _ (Ext.rfl' _)).out.mono ?_;rintro e w41 ⟨ge,se,rfl,he,ke,y41⟩;have HEa:=lh y41))
 have X42:=lh (HEa.out.trans y42);have SA:=lh ha;have KA:Hid (SumOf m5 g5 (ts.map (clsF rn (insL hs) s5)) sa):=lh (by rw[List.append_nil] at ka;exact ka);clear HEa ha ka y42 he ke
 go_upto_region 37 with(first|(have hq:=HEb;go_at_call 27;refine((HOK40.out.ext HEb.out).join he2 (show SumOf m5 g5 (([]:List Int).map (clsF rn (insL hs) s5)) se2 from ke2) (SW.out.ext HEb.out) KX.out rfl HSY.out (by simp;omega)).mono ?_;rintro e w44 ⟨gb,sb,rfl,hb,kb,y44⟩)|(go_at_call 35;refine(HE2 _ X42.out).out.mono ?_;rintro e w43 ⟨ge2,se2,rfl,he2,ke2,y43⟩;have hy43:=lh y43;have HEb:=lh (X42.out.trans y43)))
 have X44:=lh (HEb.out.trans y44);have KB:Hid (SumOf m5 g5 (ts.map (clsF rn (insL hs) s5)) sb):=lh (by rw[List.nil_append] at kb;exact kb);have HEQ4:∀ga,(ga=gl∨ga=gr∨ga=ga∨ga=gb)→True:=fun _ _=>trivial;have HEQL:=fun(gq:Nat) (hq:gq=gl∨gq=gr∨gq=ga∨gq=gb) (w':World) (y:Ext w44 w')=>lh (show Calls Tryz.prog 33 #[.pointer (some ⟨gq,0,none⟩),.pointer (some ⟨gx,0,none⟩)] w' (RetV (.bool true) w') by
  have key:∀(sq:Sm),SmAt w44 gq sq→SumOf m5 g5 (ts.map (clsF rn (insL hs) s5)) sq→Calls Tryz.prog 33 #[.pointer (some ⟨gq,0,none⟩),.pointer (some ⟨gx,0,none⟩)] w' (RetV (.bool true) w'):=fun sq h1 h2=>by
   have h:=equalS_any w' gq gx sq sx (h1.ext y) ((SW.out.ext X44.out).ext y) (by rw[KX.out.mch,h2.mch])
   rwa [smEq_of h2 KX.out] at h
  rcases hq with rfl|rfl|rfl|rfl
  ·exact key _ (SL.out.ext X44.out) HKL.out
  ·exact key _ (SR.out.ext X44.out) HKR.out
  ·exact key _ (SA.out.ext (hy43.out.trans y44)) KA.out
  ·exact key _ hb KB.out)
 clear HEQ4 HEb kb;have s:=lh (Ext.rfl' w44)
 go_wp2_with (first|(go_at_call 33;refine(HEQL _ si _ s.out).out.mono ?_;rintro e wq ⟨rfl,yq⟩;have s:=lh (s.out.trans yq);clear yq)|(go_at_call 23;refine(mlives_any _).mono ?_;rintro e wq ⟨rfl,yq⟩;have s:=lh (s.out.trans yq);clear yq))
 go_ret
 exact⟨rfl,HX19.out.trans (XA.out.trans (X44.out.trans s.out))⟩):P:=h
theorem monoidJoins_any (w:World)(LA:Option Addr)(lc:Nat)(ls:List Int)(MA:Option Addr)(mc:Nat)(ms:List Int)(plain:Bool)(OA:Option Addr)(oc:Nat)(os:List Int)(hl:IL w LA lc ls)(hm:IL w MA mc ms)(ho:IL w OA oc os) :
 Calls Tryz.prog 6 #[.slice LA ls.length lc,.slice MA ms.length mc,.bool plain,.slice OA os.length oc] w (RetV (.bool true) w):=by
 have hll:=hl.len;have hmm:=hm.len;have hoo:=ho.len;have HSO:=lh (qsome_any w LA lc ls MA mc ms plain hl hm);have HOI:=lh ho;clear hl hm ho;go_enter Tryz.func6,Tryz.ntmps6
 go_upto_region 2 with(go_at_call 24;refine HSO.out.mono ?_;rintro e w1 ⟨A,c,hs,cp,rn,TA,tc,ts,rfl,hg,hcp,hT,htb,htl,x1⟩)
 have E2:=Ext.alloc w1 (.cells #[.slice A hs.length c,.int .i64 cp,.bool rn] 33);have B2:=Blk.new w1 33 #[.slice A hs.length c,.int .i64 cp,.bool rn];change Code.wp _ _ _ _ (w1.alloc (.cells #[.slice A hs.length c,.int .i64 cp,.bool rn] 33));have D:=lh ((hg.gd rim0.1 rim0.2).ext E2);have HT2:=lh (hT.ext E2);have HTS:=lh htb;have HX2:=lh (x1.trans E2);have hl2:=hg.pl.len;have ht2:=hT.len;obtain⟨g11,hg11⟩:∃g,g=w1.heap.size:=⟨_,rfl⟩
 rw[←hg11] at B2 ⊢;clear hg11 hg hcp hT htb x1 HSO E2;generalize w1.alloc (.cells #[.slice A hs.length c,.int .i64 cp,.bool rn] 33)=w2 at *;obtain⟨v0,v1,v2,_⟩:=B2.c3;have HR10:=lh (real_any w2 A c hs cp rn D.out.pl D.out.len);clear B2
 go_upto_region 3 with(first|(have hq:=HRL;go_at_call 20;refine(new_any2 w15 A15 c15 hs rn cp HP15.out D.out.sm).mono ?_;rintro e w16 ⟨x16,hN⟩;have HX16:=lh (HRL.out.trans x16);clear x16;rcases hN with⟨hn0,rfl⟩|⟨hn0,g5,m5,s5,R5,rfl,hg5,hok5⟩)|(go_at_call 21;refine HR10.out.mono ?_;rintro e w15 ⟨A15,c15,rfl,hp15,x15⟩;have HRL:=lh x15;have HP15:=lh hp15;clear x15 hp15))
 ·have hb2:(newE rn cp (insL hs) != 0)=true:=by simpa using hn0
  go_wp2_with (go_at_call 23;refine(mlives_any _).mono ?_;rintro e w19 ⟨rfl,x19⟩;have HXE:=lh (HX2.out.trans (HX16.out.trans x19)))
  go_ret
  exact⟨rfl,HXE.out⟩
 ·have HOK:=lh hok5;have X16:=lh (HX2.out.trans HX16.out);have HT16:=lh (HT2.out.ext HX16.out);have HOO:=lh (HOI.out.ext X16.out);have HSY:=lh (sym_small1 (rn:=rn) HTS.out);have HOF:=lh (HOK.out.of HT16.out HSY.out om);clear hok5 hn0 hg5 HX16 HX2 HT2 HOI D HRL HP15 HR10 v0 v1 v2
  go_upto_region 6 with(go_at_call 26;refine HOF.out.mono ?_;rintro e w17 ⟨gx,sx,rfl,hx,kx,y17⟩)
  have X17:=lh y17;have SX:=lh hx;have KX:=lh kx;have HE1:=fun(w':World) (y:Ext w17 w')=>lh (empty_any w' g5 m5 _ s5 (HOK.out.ext (X17.out.trans y)).at_);clear hx kx y17 HOF
  go_upto_region 9 with(go_at_call 35;refine(HE1 _ (Ext.rfl' _)).out.mono ?_;rintro e w18 ⟨g1,s1,rfl,h1,k1,y18⟩)
  go_upto_region 10 with(go_at_call 35;refine(HE1 _ y18).out.mono ?_;rintro e w19 ⟨g2,s2,rfl,h2,k2,y19⟩)
  have X19:=lh (X17.out.trans (y18.trans y19));have SX19:=lh (SX.out.ext (y18.trans y19));have HOK19:=lh (HOK.out.ext X19.out);have HT19:=lh (HT16.out.ext X19.out);have HOO19:=lh (HOO.out.ext X19.out);have HJ0:Hid (JI m5 g5 (clsF rn (insL hs) s5) w19.heap.size w19 ts 0 g1 g2 s1 s2 none 0 []):=lh ⟨h1.ext y19,h2,k1,by rw[Nat.sub_zero,List.drop_length];exact k2,OwnS.nil _ _ _ _,fun _ h=>absurd h si,rfl,rfl⟩;have HX19:=lh (X16.out.trans X19.out);clear h1 k1 h2 k2 y18 y19 HE1 X17 X19 SX HOK HT16 HOO X16
  go_upto_region 12 with fail
  go_loopw [15,16,17,18] (fun v15 v16 v17 v18 wr=>∃(i gl gr:Nat) (sl sr:Sm) (A:Option Addr) (c:Nat) (ps:List (Nat×List Int)),v15=.pointer (some ⟨gl,0,none⟩)∧v16=.pointer (some ⟨gr,0,none⟩)∧v17=.slice A i c∧v18=.int .i64 i∧i≤ts.length∧Hid (JI m5 g5 (clsF rn (insL hs) s5) w19.heap.size wr ts i gl gr sl sr A c ps)∧Ext w19 wr) (fun _ _ _ v _=>ts.length-(intOf v).toNat)
  case atStart=>exact⟨0,g1,g2,s1,s2,none,0,[],rfl,rfl,rfl,rfl,om,HJ0,Ext.rfl' _⟩
  case round=>
   clear HJ0;obtain⟨i,gl,gr,sl,sr,A,c,ps,rfl,rfl,rfl,rfl,hi,HJ,x1⟩:=hrel;by_cases hlt:i<ts.length
   ·have hltI:(i:Int)<(ts.length:Int):=om;obtain⟨j,hj⟩:∃j,j=ts.length-1-i:=⟨_,rfl⟩;have hj2:j<ts.length:=om;have hjI:(ts.length:Int)-1-(i:Int)=(j:Int):=om;obtain⟨tb,tof,hTA,hcs⟩:=HT19.out.at_ (by rintro rfl;simp at hlt);have gx0:=x1.cell (hcs i hlt);have gx1:=x1.cell (hcs j hj2);rw[hTA];have HTK:Hid (ts.take (i+1)=ts.take i++[ts[i]]):=lh si;have HDR:Hid (ts.drop (ts.length-(i+1))=[ts[j]]++ts.drop (ts.length-i)):=lh (by
     have e1:ts.length-(i+1)=j:=om;have e2:ts.length-i=j+1:=om;rw[e1,e2,List.drop_eq_getElem_cons hj2];rfl)
    have hxb:=HTS.out _ (List.getElem_mem hlt);have hyb:=HTS.out _ (List.getElem_mem hj2);have hcap:=OwnS.caps HJ.out.own;have HX1:=lh x1;clear hTA hcs x1 hj;generalize ts[i]=x at *;generalize ts[j]=y at *;have hsx:=sym_small1 (rn:=rn) (ts:=[x]) (by simpa using hxb);have hsy:=sym_small1 (rn:=rn) (ts:=[y]) (by simpa using hyb);have HSX:=lh hsx;have HSY1:=lh hsy;have HS1:=lh ((HOK19.out.ext HX1.out).symbol (x:=x) (by simpa using hsx) (by unfold I64;omega));have HS2:=fun(w':World) (q:Ext wr w')=>lh ((HOK19.out.ext (HX1.out.trans q)).symbol (x:=y) (by simpa using hsy) (by unfold I64;omega));clear hsx hsy
    go_upto_region 15 with(go_at_call 36;refine HS1.out.mono ?_;rintro e w20 ⟨gs,ss,rfl,hs1,ks1,y20⟩)
    have gx2:=y20.cell gx1;clear gx0 gx1
    go_upto_region 16 with(go_at_call 36;refine(HS2 w20 y20).out.mono ?_;rintro e w21 ⟨gt,st,rfl,ht1,kt1,y21⟩)
    have X21:=lh (y20.trans y21);have SS:=lh (hs1.ext y21);have KS:=lh (show SumOf m5 g5 (([x]:List Int).map (clsF rn (insL hs) s5)) ss from ks1);have ST:=lh ht1;have KT:=lh (show SumOf m5 g5 (([y]:List Int).map (clsF rn (insL hs) s5)) st from kt1);clear hs1 ks1 ht1 kt1 y20 y21 gx2 HS1 HS2;have HA1:Hid ((ts.take i).all (symV rn)=true∧(ts.drop (ts.length-i)).all (symV rn)=true):=lh ⟨List.all_eq_true.2 fun z hz=>List.all_eq_true.1 HSY.out z (List.mem_of_mem_take hz),List.all_eq_true.2 fun z hz=>List.all_eq_true.1 HSY.out z (List.mem_of_mem_drop hz)⟩;have J1:=lh ((HOK19.out.ext (HX1.out.trans X21.out)).join (HJ.out.l.ext X21.out) HJ.out.kl SS.out KS.out HA1.out.1 HSX.out (by rw[List.length_take];simp;omega));have J2:=fun(w':World) (q:Ext w21 w')=>lh ((HOK19.out.ext (HX1.out.trans (X21.out.trans q))).join (ST.out.ext q) KT.out (HJ.out.r.ext (X21.out.trans q)) HJ.out.kr HSY1.out HA1.out.2 (by rw[List.length_drop];simp;omega))
    go_upto_region 19 with(go_at_call 27;refine J1.out.mono ?_;rintro e w22 ⟨gl2,sl2,rfl,hl2',kl2,y22⟩)
    go_upto_region 22 with(go_at_call 27;refine(J2 w22 y22).out.mono ?_;rintro e w23 ⟨gr2,sr2,rfl,hr2,kr2,y23⟩)
    have X23:=lh (X21.out.trans (y22.trans y23));have EA:=Ext.alloc w23 (.cells #[.pointer (some ⟨gs,0,none⟩)] 61);have BA:Blk (w23.alloc (.cells #[.pointer (some ⟨gs,0,none⟩)] 61)) w23.heap.size 61 (ptrs [gs]).toArray:=Blk.new w23 61 #[.pointer (some ⟨gs,0,none⟩)];have XE:=lh (HX1.out.trans (X23.out.trans EA));have HOW:=lh ((HJ.out.own.ext (X23.out.trans EA)));have HSL:=lh (hl2'.ext (y23.trans EA));have HSR:=lh (hr2.ext EA);have HPA:=lh (((HJ.out.pa.ext X23.out).snoc (SS.out.ext (y22.trans y23)) KS.out).ext EA);have HKL:Hid (SumOf m5 g5 ((ts.take (i+1)).map (clsF rn (insL hs) s5)) sl2):=lh (by rw[HTK.out];exact kl2);have HKR:Hid (SumOf m5 g5 ((ts.drop (ts.length-(i+1))).map (clsF rn (insL hs) s5)) sr2):=lh (by rw[HDR.out];exact kr2);have HPL:Hid (i=(ps.map Prod.fst).length):=lh (by rw[List.length_map];exact HJ.out.len.symm);clear J1 J2 hl2' kl2 y22 hr2 kr2 y23 ST KT HSX HSY1 HA1
    go_wp2_with (at_builtin;refine wpList_appP rfl _ _ _ rfl 61 infoPS Tryz.underlying76 w19.heap.size XE.out.size A i c _ rfl HPL.out HOW.out (some ⟨w23.heap.size,0,none⟩) 1 1 [gs] rfl rfl (cellsP BA) (by have:=HPL.out;rw[←this];simp;omega) _ rfl (i+1) rfl ?_;intro A3 c3 w24 ho3 hg3)
    have HK3:=KpP.of_grown hg3;have HQ3:=PsQ.own HOW.out;have HJ2:Hid (JI m5 g5 (clsF rn (insL hs) s5) w19.heap.size w24 ts (i+1) gl2 gr2 sl2 sr2 A3 c3 (ps++[(gs,[x])])):=lh ⟨HSL.out.kpP HK3 HQ3,HSR.out.kpP HK3 HQ3,HKL.out,HKR.out,by rw[List.map_append];exact ho3,HPA.out.kpP HK3 HQ3,by rw[List.map_append,List.flatten_append,HJ.out.fl,HTK.out];rfl,by rw[List.length_append,HJ.out.len];rfl⟩;have HX3:=lh (Ext.app XE.out HOW.out hg3);clear HK3 HQ3 ho3 hg3 EA BA HOW HSL HSR HPA HKL HKR HPL XE HJ;go_roundw
    case rel=>exact⟨i+1,gl2,gr2,sl2,sr2,A3,c3,_,rfl,rfl,rfl,by go_num,om,HJ2,HX3.out⟩
    case measure=>simp[intOf];omega
   ·have hltI:¬(i:Int)<(ts.length:Int):=om;obtain rfl:i=ts.length:=om;have HGL:=lh HJ.out.l;have HGR:=lh HJ.out.r;have hkl:=HJ.out.kl;have hkr:=HJ.out.kr;rw[List.take_length] at hkl;rw[Nat.sub_self,List.drop_zero] at hkr;have HKL:=lh hkl;have HKR:=lh hkr;have HPN:=lh HJ.out.len;have HJP:Hid (JP m5 g5 (clsF rn (insL hs) s5) wr ts A c ps):=lh ⟨OwnS.cells HJ.out.own,HJ.out.pa,HJ.out.fl.trans (List.take_length)⟩;have hcap:=OwnS.caps HJ.out.own;have HX1:=lh x1;have HTL:Hid (ts.length≤12):=lh htl;obtain⟨wo,rfl⟩:∃wo,wo=wr:=⟨_,rfl⟩;obtain⟨N,hN⟩:∃N,N=ts.length:=⟨_,rfl⟩;have HN:=lh hN;have hN12:N≤12:=om
    rw[←hN] at HPN hcap
    rw[←hN];clear hkl hkr HJ x1 hN
    go_upto_region 24 with fail
    go_loopw [17,23] (fun v17 v23 wm=>∃(k n:Nat) (A:Option Addr) (c:Nat) (ps:List (Nat×List Int)),v17=.slice A n c∧v23=.int .i64 k∧k+n≤12∧Hid (ps.length=n)∧n≤c∧c≤9223372036854775807∧Hid (JP m5 g5 (clsF rn (insL hs) s5) wm ts A c ps)∧Ext wo wm) (fun _ v _=>12-(intOf v).toNat)
    case atStart=>exact⟨0,N,A,c,ps,rfl,rfl,om,HPN,hcap.1,hcap.2,HJP,Ext.rfl' _⟩
    case round=>
     clear HJP HPN hcap;obtain⟨k,n,A2,c2,ps2,rfl,rfl,hkn,HLN,hnc,hc2,HJ2,x2⟩:=hrel;by_cases h2:1<n
     ·have h2I:(n:Int)>1:=om;have hln:=HLN.out;obtain⟨b,o,hA,hcs⟩:=ptr_cell HJ2.out.at_ (by intro e;rw[e] at hln;simp at hln;omega);subst hA;have hpb:=pick_bd os k ((n:Int)-1) om;obtain⟨q,hq⟩:∃q:Nat,pick os k ((n:Int)-1)=(q:Int):=⟨(pick os k ((n:Int)-1)).toNat,om⟩;have hqn:q+1<n:=om;have HPK:=pick_any OA oc os k ((n:Int)-1) wr (HOO19.out.ext (HX1.out.trans x2)) om om om;rw[hq] at HPK;have HPK:=lh HPK;have hq0:q<ps2.length:=om;have hq1:q+1<ps2.length:=om;have p0:=hcs q hq0;have p1:=hcs (q+1) hq1;have HFL:=lh (flat_two ps2 q);have hlen2:=flat_two_len HJ2.out.fl q hq1;obtain⟨t0,s0,hs0,ks0,ha0⟩:∃t0 s0,SmAt wr ps2[q].1 s0∧SumOf m5 g5 (t0.map (clsF rn (insL hs) s5)) s0∧(t0.all (symV rn)=true∧t0=ps2[q].2):=by
       obtain⟨s0,a1,a2⟩:=HJ2.out.pa _ (List.getElem_mem hq0);exact⟨_,s0,a1,a2,List.all_eq_true.2 fun z hz=>List.all_eq_true.1 HSY.out z (flat_mem HJ2.out.fl (List.getElem_mem hq0) z hz),rfl⟩
      obtain⟨t1,s1',hs1,ks1,ha1⟩:∃t1 s1,SmAt wr ps2[q+1].1 s1∧SumOf m5 g5 (t1.map (clsF rn (insL hs) s5)) s1∧(t1.all (symV rn)=true∧t1=ps2[q+1].2):=by
       obtain⟨s0,a1,a2⟩:=HJ2.out.pa _ (List.getElem_mem hq1);exact⟨_,s0,a1,a2,List.all_eq_true.2 fun z hz=>List.all_eq_true.1 HSY.out z (flat_mem HJ2.out.fl (List.getElem_mem hq1) z hz),rfl⟩
      rw[←ha0.2,←ha1.2] at hlen2;have HTT:Hid (∀gs,(((ps2.take q++[(gs,t0++t1)]++ps2.drop (q+2)).map Prod.snd).flatten=ts)):=lh (fun gs=>by
       have h:=flat_two ps2 q gs hq1
       rw[←ha0.2,←ha1.2,HJ2.out.fl] at h;exact h)
      have HA0:=lh ha0.1;have HA1:=lh ha1.1;clear ha0 ha1 HFL hcs hpb;generalize ps2[q].1=g0 at *;generalize ps2[q+1].1=g1' at *;have HX2:=lh (HX1.out.trans x2);have JJ:=fun(w':World) (x:Ext wr w')=>lh ((HOK19.out.ext (HX2.out.trans x)).join (hs0.ext x) ks0 (hs1.ext x) ks1 HA0.out HA1.out om);have hx2:=lh x2;clear hs0 ks0 hs1 ks1 hlen2 x2 hq hq0 hq1 hln
      go_upto_region 27 with(go_at_call 37;refine HPK.out.mono ?_;rintro e w27 h27;obtain⟨rfl,x27⟩:=RetQ.v h27;clear h27)
      replace p0:=x27.cell p0;replace p1:=x27.cell p1;have d0:=kc0 p0;have d1:=kc0 p1;have hqI:(q:Int)<(n:Int):=om;have hqJ:(q:Int)+1<(n:Int):=om;have hqK:0≤(q:Int)+1:=om;have hwq:IntKind.i64.wrap ((q:Int)+1)=((q+1:Nat):Int):=wj;refine Xr.start [] kr ?_;refine Xtk 0 ?_
      iterate 6(refine Xtn ?_)
      refine Xr.take 7 (some 149) (v:=.int .i64 ((q+1:Nat):Int)) rfl rfl dK (by rfl) (fun w' hk=>by go_simp) ?_;refine ptm ?_;refine Xtk 8 ?_;refine Xtn ?_;refine Xcl 10 fun w28 hE28 hK28 K hKK=>?_;go_simp;refine(JJ w28 (x27.trans hE28)).out.mono ?_;rintro e w29 ⟨gs,ss,rfl,hss,kss,y29⟩;refine hKK _ _ y29 ?_;clear hKK;refine ptm ?_;refine Xtk 11 ?_
      iterate 4(refine Xtn ?_)
      refine Xdn fun w30 hE30 hK30=>?_;have HXQ:=lh (x27.trans ((hE28.trans y29).trans hE30));have HSS:=lh (hss.ext hE30);have HKS:=lh kss;clear hE28 hK28 hE30 hK30 y29 hss kss x27 d0 d1 p0 p1 JJ HPK hwq;have EA0:=Ext.alloc w30 (.cells #[] 61);have BA0:Blk (w30.alloc (.cells #[] 61)) w30.heap.size 61 (ptrs []).toArray:=Blk.new w30 61 #[];have HO0:Hid (OwnS (w30.alloc (.cells #[] 61)) w30.heap.size 61 1 (some ⟨w30.heap.size,0,none⟩) 0 0 (ptrs [])):=lh (OwnS.of_blk (size:=1) (n:=0) (c:=0) BA0 (Nat.le_refl _) rfl (Nat.le_refl _) (Nat.zero_le _));have HCT:=lh (HJ2.out.at_.ext (HXQ.out.trans EA0));have HCT2:Hid (CellsAt (w30.alloc (.cells #[] 61)) (some ⟨b,o,none⟩) (ptrs ((ps2.take q).map Prod.fst))):=lh (by have h:=HCT.out.take q;rwa [show(ptrs (ps2.map Prod.fst)).take q=ptrs ((ps2.take q).map Prod.fst) by simp[ptrs,List.map_take]] at h);have HTL1:Hid (q=((ps2.take q).map Prod.fst).length):=lh (by rw[List.length_map,List.length_take,HLN.out];omega);have hqnI:(q:Int)≤(n:Int):=om;have hqcI:(q:Int)≤(c2:Int):=om;clear BA0 HCT
      go_upto_region 31 with(at_builtin;refine wpList_appP rfl _ _ _ rfl 61 infoPS Tryz.underlying76 w30.heap.size EA0.size (some ⟨w30.heap.size,0,none⟩) 0 0 [] rfl rfl HO0.out (some ⟨b,o,none⟩) q c2 ((ps2.take q).map Prod.fst) rfl HTL1.out HCT2.out (by rw[←HTL1.out];simp;omega) ((ps2.take q).map Prod.fst) si q si ?_;intro A3 c3 w31 ho3 hg3)
      have HX31:=lh (Ext.app EA0 HO0.out hg3);have HO3:=lh ho3;have EA1:=Ext.alloc w31 (.cells #[.pointer (some ⟨gs,0,none⟩)] 61);have BA1:Blk (w31.alloc (.cells #[.pointer (some ⟨gs,0,none⟩)] 61)) w31.heap.size 61 (ptrs [gs]).toArray:=Blk.new w31 61 #[.pointer (some ⟨gs,0,none⟩)];have XE1:=lh (HX31.out.trans EA1);have HO3':=lh (HO3.out.ext EA1);clear ho3 hg3 EA0 HO0 HCT2 HX31
      go_upto_region 32 with(at_builtin;refine wpList_appP rfl _ _ _ rfl 61 infoPS Tryz.underlying76 w30.heap.size XE1.out.size A3 q c3 _ rfl HTL1.out HO3'.out (some ⟨w31.heap.size,0,none⟩) 1 1 [gs] rfl rfl (cellsP BA1) (by rw[←HTL1.out];simp;omega) _ rfl (q+1) rfl ?_;intro A4 c4 w32 ho4 hg4)
      have HX32:=lh (Ext.app XE1.out HO3'.out hg4);have HO4:=lh ho4;have hc4:=OwnS.caps ho4;clear ho4 hg4 HO3 HO3' EA1 BA1 XE1;have HCD:Hid (CellsAt w32 (dropI (some ⟨b,o,none⟩) c2 (q+2)) (ptrs ((ps2.drop (q+2)).map Prod.fst))):=lh (by
       have h:=(HJ2.out.at_.ext (HXQ.out.trans HX32.out)).drop (q+2) (c:=c2) (by simp[ptrs,HLN.out];omega)
       rwa [show(ptrs (ps2.map Prod.fst)).drop (q+2)=ptrs ((ps2.drop (q+2)).map Prod.fst) by simp[ptrs,List.map_drop]] at h)
      have HTL2:Hid (n-(q+2)=((ps2.drop (q+2)).map Prod.fst).length):=lh (by rw[List.length_map,List.length_drop,HLN.out]);have HTL3:Hid (q+1=((ps2.take q).map Prod.fst++[gs]).length):=lh (by rw[List.length_append,←HTL1.out];rfl);have hq2n:(q:Int)+2≤(n:Int):=om;have hq2c:(q:Int)+2≤(c2:Int):=om;have HSM:Hid (∀m,m=n-(q+2)→q+1+m=n-1):=lh (fun m hm=>om);have HN1:Hid (((ps2.take q).map Prod.fst++[gs]).length+((ps2.drop (q+2)).map Prod.fst).length≤1000000):=lh (by rw[←HTL2.out,←HTL3.out];omega);by_cases hce:c2=q+2
      ·have hdr:dropI (some ⟨b,o,none⟩) c2 (q+2)=some ⟨b,o,none⟩:=by unfold dropI;rw[if_pos hce]
       rw[hdr] at HCD;have hceI:(c2:Int)=(q:Int)+2:=om;clear hce hdr
       go_wp2_with (at_builtin;refine wpList_appP rfl _ _ _ rfl 61 infoPS Tryz.underlying76 w30.heap.size HX32.out.size A4 (q+1) c4 _ rfl HTL3.out HO4.out (some ⟨b,o,none⟩) (n-(q+2)) _ ((ps2.drop (q+2)).map Prod.fst) rfl HTL2.out HCD.out HN1.out _ rfl (n-1) (HSM.out _ rfl).symm ?_;intro A5 c5 w33 ho5 hg5)
       exact dsB
      ·have hdr:dropI (some ⟨b,o,none⟩) c2 (q+2)=some ⟨b,o+(q+2),none⟩:=by unfold dropI;rw[if_neg hce,Option.map_some,Addr.add_lit]
       have hceI:¬(c2:Int)=(q:Int)+2:=om;rw[hdr] at HCD;clear hce hdr
       go_wp2_with (at_builtin;refine wpList_appP rfl _ _ _ rfl 61 infoPS Tryz.underlying76 w30.heap.size HX32.out.size A4 (q+1) c4 _ rfl HTL3.out HO4.out (some ⟨b,o+(q+2),none⟩) (n-(q+2)) (c2-(q+2)) ((ps2.drop (q+2)).map Prod.fst) rfl HTL2.out HCD.out HN1.out _ rfl (n-1) (HSM.out _ rfl).symm ?_;intro A5 c5 w33 ho5 hg5)
       exact dsB
     ·have h2I:¬(n:Int)>1:=om;have hln:=HLN.out;rcases Nat.eq_zero_or_pos n with h0|h0
      ·subst h0;have hne:((0:Nat):Int)=0:=rfl
       go_upto_region 35 with fail
       obtain⟨w40,y40,e40⟩:∃w40,Ext wr w40∧w40=wr:=⟨wr,Ext.rfl' _,rfl⟩
       rw[←e40];clear e40 h2I HJ2 HLN hln;exact dsE
      ·obtain rfl:n=1:=om;obtain⟨p,rfl⟩:∃p,ps2=[p]:=by
        cases ps2 with
        | nil=>simp at hln
        | cons a l=>cases l with
         | nil=>exact⟨a,rfl⟩
         | cons b l=>simp at hln
       obtain⟨b,o,hA,hcs⟩:=ptr_cell HJ2.out.at_ si;subst hA;have p0:=hcs 0 si;simp only[List.getElem_cons_zero,Nat.add_zero] at p0;obtain⟨sp,ap,kp⟩:=HJ2.out.pa p si;have hp2:p.2=ts:=by have h:=HJ2.out.fl;simpa using h
       rw[hp2] at kp;generalize p.1=gp at *;have HEQ:=lh (show Calls Tryz.prog 33 #[.pointer (some ⟨gp,0,none⟩),.pointer (some ⟨gx,0,none⟩)] wr (RetV (.bool true) wr) by
        have h:=equalS_any wr gp gx sp sx ap (SX19.out.ext (HX1.out.trans x2)) (by rw[KX.out.mch,kp.mch])
        rwa [smEq_of kp KX.out] at h)
       clear ap kp hp2 hcs
       go_upto_region 35 with(go_at_call 33;refine HEQ.out.mono ?_;rintro e w40 ⟨rfl,y40⟩)
       clear h2I HJ2 HLN hln p0 HEQ;exact dsE
end
end Go.Proofs.YtmocoldobnimfaaGreat
