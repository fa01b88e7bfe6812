/- Texts of this proof: I7 I2. -/
import Derived.Test.YtmgpefenkilffaaGreatSW30
import Derived.Test.YtmgpefenkilffaaGreatSW32
set_option linter.all false
set_option maxRecDepth 100000
set_option maxHeartbeats 16000000
namespace Go.Proofs.YtmgpefenkilffaaGreat
section
open Go.RowKit
attribute [local go_sem ↓] Go.wp_at_zero Go.wp_at_succ
theorem codeT_0 {T:Tm}{c:List Ins}(h:T.hd.op=0):codeT T c=c:=by rw[codeT_eq];simp[codeH,h]
theorem codeT_1 {T:Tm}{c:List Ins}(h:T.hd.op=1):codeT T c=c++[⟨1,0,0,0,T.hd.l⟩]:=by rw[codeT_eq];simp[codeH,h]
theorem codeT_2 {T:Tm}{c:List Ins}(h:T.hd.op=2):codeT T c=seqC (T.kids.map codeT) c:=by rw[codeT_eq];simp[codeH,h]
theorem codeT_3 {T:Tm}{c:List Ins}(h:T.hd.op=3):codeT T c=altC (T.kids.map codeT) c:=by rw[codeT_eq];simp[codeH,h]
theorem codeT_4 {T t:Tm}{c:List Ins}(h:T.hd.op=4)(ht:T.kids.head? = some t):codeT T c=repC (codeT t) T.hd.mn.toNat T.hd.mx T.hd.md c:=by
 rw[codeT_eq];have e:(T.kids.map codeT).headD id=codeT t:=by
  cases hT:T.kids with
  | nil=>rw[hT] at ht;cases ht
  | cons a l=>rw[hT] at ht;injection ht with ht;subst ht;rfl
 simp only[codeH,h,e]
 rfl
theorem codeT_5 {T:Tm}{c:List Ins}(h:T.hd.op=5)(hj:0<T.kids.length):codeT T c=codeT T.kids[0] (c++[⟨4,0,0,2*T.hd.n-2,[]⟩])++[⟨4,0,0,2*T.hd.n-1,[]⟩]:=by
 rw[codeT_eq];have e:(T.kids.map codeT).headD id=codeT T.kids[0]:=by
  rw[List.headD_eq_head?_getD,List.head?_map,List.head?_eq_getElem?,List.getElem?_eq_getElem hj]
  rfl
 simp only[codeH,h,e]
 rfl
theorem codeT_x {T:Tm}{c:List Ins}(h:T.hd.op=11):codeT T c=c++[⟨5,0,0,T.hd.n,[]⟩]:=by rw[codeT_eq];simp[codeH,h]
theorem hwrite_G (wE:World)(base gc gq gw ga gr d B M:Nat)(hE:wE.heap.size<=base)(hbg:base<=gc)(IH:WrOkG wE base gc gq gw ga gr d B)(hB:2<=B)(hM3:3<=M)
 (b o:Nat) (n:Nd) (T:Tm) (hnG:PgN wE b o d n T) (hk:1<=n.ks.length->B*3<=M) (hbl:b<wE.heap.size)
 (w:World) (A:Option Addr) (c:Nat) (hs:List Hin) (hc:CS wE base gc gq gw ga gr w A c hs) (hl:hs.length+M<=100000) :
 Calls Tryz.prog 164 #[.pointer (some ⟨b,o,none⟩),.pointer (some ⟨gq,0,none⟩),.pointer (some ⟨gw,0,none⟩),.pointer (some ⟨ga,0,none⟩),.pointer (some ⟨gr,0,none⟩)] w (RetWe (codeT T) wE base gc gq gw ga gr w A hs M):=by
 have hn:=hnG.pn;have HNG:=lh hnG;have HLEN:=lh hnG.len;have HHD:Hid (T.hd.op=n.op/\T.hd.l=n.l/\T.hd.mn=n.mn/\T.hd.mx=n.mx/\T.hd.md=n.md/\T.hd.n=n.n):=lh (by rw[hnG.hd];exact⟨rfl,rfl,rfl,rfl,rfl,rfl⟩);have HN:=lh hn;have HC:=lh hc;have hwl:=hc.b.lt;obtain⟨c0,c1,c2,_,_,_,c6,_⟩:=(hn.ext hc.x).p.c8;have nb:b∉gc::bl A:=fun e=>by
  rcases List.mem_cons.1 e with e|e
  ·omega
  ·have:=OwnS.row hc.o b (bl.mem e);omega
 have hop:=hn.ok.op;have halt:=hn.ok.alt;have hone:=hn.ok.one;have hfew:=hn.ok.few;have hnn:=hn.ok.n;have hset:=lh hn.ok.set;have hkc:n.ks.length<=n.kc/\n.kc<=9223372036854775807:=⟨hn.le,by have:=hn.cap;unfold maxLen at this;omega⟩;have q0:w.cell? ⟨gq,0,none⟩=some (.func (Fn.func 160) #[] #[.pointer (some ⟨gc,0,none⟩)]):=hc.bx.wb.q.cell 0;have Dq:=lh (fun(w':World) (h:Kp (gc::bl A) w w')=>h.cell q0 (hc.nin hc.bx.wb.q de de));clear q0 hn hc hnG;generalize n.op=op at *;go_enter Tryz.func164,Tryz.ntmps164;rcases hop with rfl|rfl|rfl|rfl|rfl|rfl|rfl
 ·go_wp2_with fail
  exact bodyPost_end (v:=.tuple #[]) (by simp[results,Tryz.results164,go_sem]) rfl ⟨hs,A,c,rfl,HC.out,CT.refl _ _ _,Nat.le_refl _,om,lh (by rw[codeT_0 HHD.out.1])⟩
 ·have d0:=Dq.out;have d1:=fun(w':World) (h:Kp (gc::bl A) w w')=>h.cell c1 nb;clear c1 c2 c6
  go_upto_region 2 with fail
  refine Xr.start (gc::bl A) kr ?_;refine Xtk 0 ?_
  iterate 4(refine Xtn ?_)
  clear d0 d1;refine Xcl 5 fun w1 hE1 hK1 K hKK=>?_;go_simp;refine(cloneS_any n.A n.c n.l w1 (HN.out.sl.ext (HC.out.x.trans hE1)) (by have:=hset.out.1;omega)).mono ?_;rintro e w2 ⟨A',c',rfl,ho2,x2⟩;refine hKK _ _ x2 ?_;clear hKK;refine ptm ?_;refine Xr.take 6 (some 19) (v:=.agg #[.int .i64 1,.int .i64 0,.int .i64 0,.int .i64 0,.slice A' n.l.length c']) rfl rfl dK (by rfl) (fun w' hk=>by go_simp) ?_;refine ptm ?_;refine Xsp 7 fun w3 hE3 hK3 K hKK=>?_;go_simp;have XW3:=(hE1.trans x2).trans hE3;refine(hput_cs wE w3 base gc gq gw ga gr hE hbg A c hs (HC.out.ext XW3) om (by have:=XW3.size;omega) ⟨1,0,0,0,A',c',n.l⟩ (by simp[Hin.wf,I64]) (OwnP.downZ (OwnS.ext ho2 hE3)) (fun s hs=>(HN.out.sl.rng s hs)) (setE_of hset.out)).mono ?_;rintro e w4 ⟨A4,c4,rfl,hc4,ht4⟩;refine hKK _ _ (WI_kp ht4.kp CQ.mem) (hK3.kpP ht4.kp CQ.mem) ?_;clear hKK;refine ptm ?_;refine Xdn fun w5 hE5 hK5=>?_;have HC5:=lh (hc4.ext hE5);have HT5:=lh (((CT.of_ext gc A XW3).trans ht4).trans (CT.of_ext gc A4 hE5));clear XW3 hE5 hK5 hE3 hK3 hE1 hK1 x2 ho2 hc4 ht4
  go_wp2_with fail
  exact bodyPost_end (v:=.tuple #[]) (by simp[results,Tryz.results164,go_sem]) rfl ⟨_,A4,c4,rfl,HC5.out,HT5.out,by simp,by simp;omega,lh (by rw[codeT_1 HHD.out.1,HHD.out.2.1,insL_append];rfl)⟩
 ·have C2:Hid (wE.cell? ⟨b,o+2,none⟩=some (.slice n.K n.ks.length n.kc)):=lh HN.out.p.c8.2.2.1;have HT0:=lh (CT.refl gc A w);have HC0:=HC;have HL0:Hid (hs.length<=hs.length/\hs.length+2*0<=hs.length+B*0):=lh om;have HE0:Hid (insL hs=seqP T.kids 0 (insL hs)):=lh rfl;have HKK:=lh hk;have HFW:=lh hfew;clear c1 c6 halt hone hk Dq
  go_upto_region 7 with fail
  clear c0 c2 nb
  go_loopw [37] (fun v37 wr=>∃(i:Nat) (A1:Option Addr) (c1:Nat) (hs1:List Hin),v37=.int .i64 i/\i<=n.ks.length/\Hid (CS wE base gc gq gw ga gr wr A1 c1 hs1)/\Hid (CT gc A w A1 wr)/\Hid (hs.length<=hs1.length/\hs1.length+2*i<=hs.length+B*i)/\Hid (insL hs1=seqP T.kids i (insL hs))) (fun v _=>n.ks.length-(intOf v).toNat)
  case atStart=>exact⟨0,A,c,hs,rfl,Nat.zero_le _,HC0,HT0,HL0,HE0⟩
  case round=>
   clear HC HC0 HT0 HL0 HE0;obtain⟨i,A1,c1,hs1,rfl,hi,HC,HT,HL,HE⟩:=hrel;by_cases hlt:i<n.ks.length
   ·have hltI:(i:Int)<n.ks.length:=om;have hj:i<T.kids.length:=by have:=HLEN.out;omega
    obtain⟨kb,ko,eK,hkid⟩:=HNG.out.kid i hj;have HKID:=lh hkid;have z2:=HC.out.x.cell C2.out;rw[eK] at z2;clear eK hkid;have nb:b∉gc::bl A1:=fun e=>by
     have h1:=HC.out.b.lt;rcases List.mem_cons.1 e with e|e
     ·omega
     ·have:=OwnS.row HC.out.o b (bl.mem e);omega
    have z5:wr.cell? ⟨gw,0,none⟩=some (.func (Fn.func 164) #[] #[.pointer (some ⟨gq,0,none⟩),.pointer (some ⟨gw,0,none⟩),.pointer (some ⟨ga,0,none⟩),.pointer (some ⟨gr,0,none⟩)]):=HC.out.bx.wb.w.cell 0;have d0:=fun(w':World) (h:Kp (gc::bl A1) wr w')=>h.cell z5 (HC.out.nin HC.out.bx.wb.w de de);have d1:=fun(w':World) (h:Kp (gc::bl A1) wr w')=>h.cell z2 nb;clear z2 z5 nb
    go_upto_region 9 with fail
    refine Xr.start (gc::bl A1) kr ?_;refine Xtk 0 ?_
    iterate 6(refine Xtn ?_)
    clear d0 d1;refine Xsp 7 fun w3 hE3 hK3 K hKK=>?_;go_simp;refine(IH _ _ _ HKID.out w3 A1 c1 hs1 (HC.out.ext hE3) (by
     have:=HL.out;have:=HKK.out om;have:=mul_step B i;have:=mul_le2 (B:=B) (show i+1<=3 by have:=HFW.out;omega);omega)).mono ?_
    rintro e w4 ⟨hs4,A4,c4,rfl,hc4,ht4,hlo4,hhi4,HI4⟩;refine hKK _ _ (WI_kp ht4.kp CQ.mem) (hK3.kpP ht4.kp CQ.mem) ?_;clear hKK;refine ptm ?_;refine Xdn fun w5 hE5 hK5=>?_;have HC5:=lh (hc4.ext hE5);have HT5:=lh (HT.out.trans (((CT.of_ext gc A1 hE3).trans ht4).trans (CT.of_ext gc A4 hE5)));have HL5:Hid (hs.length<=hs4.length/\hs4.length+2*(i+1)<=hs.length+B*(i+1)):=lh (by have:=HL.out;have:=mul_step B i;omega);clear hE3 hK3 hE5 hK5 hc4 ht4 hlo4 hhi4 HC HT HL
    go_wp2_with fail
    go_roundw
    case rel=>exact⟨i+1,A4,c4,hs4,by go_num,om,HC5,HT5,HL5,lh (by rw[seqP_succ _ _ _ hj,<-HE.out,<-HI4.out])⟩
    case measure=>simp[intOf];omega
   ·have hle:¬(i:Int)<n.ks.length:=om;have HF:Hid (hs1.length+2<=hs.length+M):=lh (by
     have:=HL.out;have hf:=HFW.out;by_cases h0:i=0
     ·subst h0;omega
     ·have:=HKK.out om;have:=mul_le2 (B:=B) (show i<=3 by omega);omega)
    go_wp2_with fail
    exact bodyPost_end (v:=.tuple #[]) (by simp[results,Tryz.results164,go_sem]) rfl ⟨hs1,A1,c1,rfl,HC.out,HT.out,HL.out.1,HF.out,lh (by rw[codeT_2 HHD.out.1,<-seqP_all T.kids i _ (by have:=HLEN.out;omega)];exact HE.out)⟩
 ·have h2:=halt rfl;obtain⟨m,hm⟩:∃m,n.ks.length=m+1:=⟨n.ks.length-1,om⟩;have hkk:=hk om;have HM:=lh hm;have HM2:Hid (1<=m/\m<=2/\m+1<=n.kc):=lh om;clear hm h2 halt hone hk;have q1:w.cell? ⟨ga,0,none⟩=some (.func (Fn.func 163) #[] #[.pointer (some ⟨gq,0,none⟩),.pointer (some ⟨gw,0,none⟩),.pointer (some ⟨gc,0,none⟩)]):=HC.out.bx.a.cell 0;have d0:=fun(w':World) (h:Kp (gc::bl A) w w')=>h.cell q1 (HC.out.nin HC.out.bx.a de de);have d1:=fun(w':World) (h:Kp (gc::bl A) w w')=>h.cell c2 nb;clear c1 c2 c6 q1
  go_upto_region 12 with fail
  refine Xr.start (gc::bl A) kr ?_;refine Xtk 0 ?_
  iterate 4(refine Xtn ?_)
  clear d0 d1;refine Xsp 5 fun w3 hE3 hK3 K hKK=>?_;go_simp;have HH:=halt_G wE base gc gq gw ga gr d B hE hbg IH hB n.K n.kc m T.kids (by have:=HM.out;have:=HLEN.out;omega) (fun i hi=>HNG.out.kid i hi) (by have:=HM2.out;omega) (by have:=HM2.out;omega) w3 A c hs (HC.out.ext hE3) om
  rw[<-HM.out] at HH;refine HH.mono ?_;rintro e w4 ⟨hs4,A4,c4,rfl,hc4,ht4,hlo4,hhi4,HI4⟩;refine hKK _ _ (WI_kp ht4.kp CQ.mem) (hK3.kpP ht4.kp CQ.mem) ?_;clear hKK HH;refine ptm ?_;refine Xdn fun w5 hE5 hK5=>?_;have HC5:=lh (hc4.ext hE5);have HT5:=lh (((CT.of_ext gc A hE3).trans ht4).trans (CT.of_ext gc A4 hE5));clear hE5 hK5 hE3 hK3 hc4 ht4
  go_wp2_with fail
  exact bodyPost_end (v:=.tuple #[]) (by simp[results,Tryz.results164,go_sem]) rfl ⟨hs4,A4,c4,rfl,HC5.out,HT5.out,hlo4,om,lh (by rw[codeT_3 HHD.out.1];exact HI4.out)⟩
 ·have hkk:=hk (hone (.inl rfl));have q1:w.cell? ⟨gr,0,none⟩=some (.func (Fn.func 161) #[] #[.pointer (some ⟨gw,0,none⟩),.pointer (some ⟨gq,0,none⟩),.pointer (some ⟨gc,0,none⟩)]):=HC.out.bx.r.cell 0;obtain⟨t,ht⟩:∃t,T.kids.head? = some t:=by
   cases hT:T.kids with
   | nil=>have h1:=hone (.inl rfl);have h2:=HLEN.out;rw[hT] at h2;have h3:n.ks.length=0:=h2;omega
   | cons a l=>exact⟨a,rfl⟩
  have HR:=lh (hrep_G wE base gc gq gw ga gr d B M hE hbg IH hB hkk b o n T t HNG.out ht hbl w A c hs HC.out hl);have HT4:=lh ht;clear ht;clear c1 c2 c6 halt hone hk hkk
  go_wp2_with (go_at_call 161;refine HR.out.mono ?_;rintro e w4 ⟨hs4,A4,c4,rfl,hc4,ht4,hlo4,hhi4,HI4⟩)
  exact bodyPost_end (v:=.tuple #[]) (by simp[results,Tryz.results164,go_sem]) rfl ⟨hs4,A4,c4,rfl,hc4,ht4,hlo4,hhi4,lh (by rw[codeT_4 HHD.out.1 HT4.out,HHD.out.2.2.1,HHD.out.2.2.2.1,HHD.out.2.2.2.2.1];exact HI4.out)⟩
 ·have hkk:=hk (hone (.inr rfl));have h1k:0<n.ks.length:=hone (.inr rfl);have hj:0<T.kids.length:=by have:=HLEN.out;omega
  obtain⟨kb,ko,eK,hkid⟩:=HNG.out.kid 0 hj;rw[Nat.zero_mul,Nat.add_zero] at hkid;have HKID:=lh hkid;have C2:Hid (wE.cell? ⟨b,o+2,none⟩=some (.slice (some ⟨kb,ko,none⟩) n.ks.length n.kc)):=lh (by rw[<-eK];exact HN.out.p.c8.2.2.1);have C6:=lh HN.out.p.c8.2.2.2.2.2.2.1;have v1:IntKind.i64.wrap (2*n.n)=2*n.n:=wj;have v2:IntKind.i64.wrap (2*n.n-2)=2*n.n-2:=wj;have v3:IntKind.i64.wrap (2*n.n-1)=2*n.n-1:=wj;have d0:=Dq.out;have d1:=fun(w':World) (h:Kp (gc::bl A) w w')=>h.cell c6 nb;clear c1 c2 c6 halt hone hk hkid eK
  go_upto_region 14 with fail
  refine Xr.start (gc::bl A) kr ?_;refine Xtk 0 ?_
  iterate 7(refine Xtn ?_)
  clear d0 d1;refine Xsp 8 fun w3 hE3 hK3 K hKK=>?_;go_simp;refine(hput_cs wE w3 base gc gq gw ga gr hE hbg A c hs (HC.out.ext hE3) om (by have:=hE3.size;omega) ⟨4,0,0,2*n.n-2,none,0,[]⟩ (by simp only[Hin.wf,I64];omega) (OwnP.nil _ _) si (SetE.nil _)).mono ?_;rintro e w4 ⟨A4,c4,rfl,hc4,ht4⟩;refine hKK _ _ (WI_kp ht4.kp CQ.mem) (hK3.kpP ht4.kp CQ.mem) ?_;clear hKK;refine ptm ?_;refine Xdn fun w5 hE5 hK5=>?_;have HC5:=lh (hc4.ext hE5);have HT5:=lh (((CT.of_ext gc A hE3).trans ht4).trans (CT.of_ext gc A4 hE5));clear hE5 hK5 hE3 hK3 hc4 ht4;obtain⟨hs5,e5⟩:∃l,l=hs++[⟨4,0,0,2*n.n-2,none,0,[]⟩]:=⟨_,rfl⟩
  rw[<-e5] at HC5;have HL5:Hid (hs5.length=hs.length+1):=lh (by rw[e5];simp);have HI5:Hid (insL hs5=insL hs++[⟨4,0,0,2*n.n-2,[]⟩]):=lh (by rw[e5,insL_append];rfl);clear e5;have nb5:b∉gc::bl A4:=fun e=>by
   rcases List.mem_cons.1 e with e|e
   ·omega
   ·have:=OwnS.row HC5.out.o b (bl.mem e);omega
  have z5:w5.cell? ⟨gw,0,none⟩=some (.func (Fn.func 164) #[] #[.pointer (some ⟨gq,0,none⟩),.pointer (some ⟨gw,0,none⟩),.pointer (some ⟨ga,0,none⟩),.pointer (some ⟨gr,0,none⟩)]):=HC5.out.bx.wb.w.cell 0;have z2:=HC5.out.x.cell C2.out;have d0:=fun(w':World) (h:Kp (gc::bl A4) w5 w')=>h.cell z5 (HC5.out.nin HC5.out.bx.wb.w de de);have d1:=fun(w':World) (h:Kp (gc::bl A4) w5 w')=>h.cell z2 nb5;clear z5 z2 nb5
  go_upto_region 15 with fail
  refine Xr.start (gc::bl A4) kr ?_;refine Xtk 0 ?_
  iterate 5(refine Xtn ?_)
  clear d0 d1;refine Xsp 6 fun w6 hE6 hK6 K hKK=>?_;go_simp;refine(IH _ _ _ HKID.out w6 A4 c4 hs5 (HC5.out.ext hE6) (by have:=HL5.out;omega)).mono ?_;rintro e w7 ⟨hs7,A7,c7,rfl,hc7,ht7,hlo7,hhi7,HI7⟩;refine hKK _ _ (WI_kp ht7.kp CQ.mem) (hK6.kpP ht7.kp CQ.mem) ?_;clear hKK;refine ptm ?_;refine Xdn fun w8 hE8 hK8=>?_;have HC8:=lh (hc7.ext hE8);have HT8:=lh (HT5.out.trans (((CT.of_ext gc A4 hE6).trans ht7).trans (CT.of_ext gc A7 hE8)));have HL8:=lh (And.intro hlo7 hhi7);clear hE8 hK8 hE6 hK6 hc7 ht7 hlo7 hhi7 HC5 HT5;have nb8:b∉gc::bl A7:=fun e=>by
   rcases List.mem_cons.1 e with e|e
   ·omega
   ·have:=OwnS.row HC8.out.o b (bl.mem e);omega
  have q8:w8.cell? ⟨gq,0,none⟩=some (.func (Fn.func 160) #[] #[.pointer (some ⟨gc,0,none⟩)]):=HC8.out.bx.wb.q.cell 0;have z6:=HC8.out.x.cell C6.out;have d0:=fun(w':World) (h:Kp (gc::bl A7) w8 w')=>h.cell q8 (HC8.out.nin HC8.out.bx.wb.q de de);have d1:=fun(w':World) (h:Kp (gc::bl A7) w8 w')=>h.cell z6 nb8;clear q8 z6 nb8
  go_upto_region 16 with fail
  refine Xr.start (gc::bl A7) kr ?_;refine Xtk 0 ?_
  iterate 7(refine Xtn ?_)
  clear d0 d1;refine Xsp 8 fun w9 hE9 hK9 K hKK=>?_;go_simp;refine(hput_cs wE w9 base gc gq gw ga gr hE hbg A7 c7 hs7 (HC8.out.ext hE9) (by have:=HL8.out;have:=HL5.out;omega) (by have:=(HC8.out.ext hE9).b.lt;omega) ⟨4,0,0,2*n.n-1,none,0,[]⟩ (by simp only[Hin.wf,I64];omega) (OwnP.nil _ _) si (SetE.nil _)).mono ?_;rintro e wa ⟨Aa,ca,rfl,hca,hta⟩;refine hKK _ _ (WI_kp hta.kp CQ.mem) (hK9.kpP hta.kp CQ.mem) ?_;clear hKK;refine ptm ?_;refine Xdn fun wb hEb hKb=>?_;have HCb:=lh (hca.ext hEb);have HTb:=lh (HT8.out.trans (((CT.of_ext gc A7 hE9).trans hta).trans (CT.of_ext gc Aa hEb)));clear hEb hKb hE9 hK9 hca hta
  go_wp2_with fail
  exact bodyPost_end (v:=.tuple #[]) (by simp[results,Tryz.results164,go_sem]) rfl ⟨_,Aa,ca,rfl,HCb.out,HTb.out,by have:=HL8.out;have:=HL5.out;simp;omega,by have:=HL8.out;have:=HL5.out;simp;omega,lh (by rw[codeT_5 HHD.out.1 hj,HHD.out.2.2.2.2.2,<-HI5.out,<-HI7.out,insL_append];rfl)⟩
 ·have d0:=Dq.out;have d1:=fun(w':World) (h:Kp (gc::bl A) w w')=>h.cell c6 nb;clear c1 c2 c6 halt hone hk
  go_upto_region 4 with fail
  refine Xr.start (gc::bl A) kr ?_;refine Xtk 0 ?_
  iterate 5(refine Xtn ?_)
  clear d0 d1;refine Xsp 6 fun w3 hE3 hK3 K hKK=>?_;go_simp;refine(hput_cs wE w3 base gc gq gw ga gr hE hbg A c hs (HC.out.ext hE3) om (by have:=hE3.size;omega) ⟨5,0,0,n.n,none,0,[]⟩ (by simp only[Hin.wf,I64];omega) (OwnP.nil _ _) si (SetE.nil _)).mono ?_;rintro e w4 ⟨A4,c4,rfl,hc4,ht4⟩;refine hKK _ _ (WI_kp ht4.kp CQ.mem) (hK3.kpP ht4.kp CQ.mem) ?_;clear hKK;refine ptm ?_;refine Xdn fun w5 hE5 hK5=>?_;have HC5:=lh (hc4.ext hE5);have HT5:=lh (((CT.of_ext gc A hE3).trans ht4).trans (CT.of_ext gc A4 hE5));clear hE5 hK5 hE3 hK3 hc4 ht4
  go_wp2_with fail
  exact bodyPost_end (v:=.tuple #[]) (by simp[results,Tryz.results164,go_sem]) rfl ⟨_,A4,c4,rfl,HC5.out,HT5.out,by simp,by simp;omega,lh (by rw[codeT_x HHD.out.1,HHD.out.2.2.2.2.2,insL_append];rfl)⟩
theorem hwrite_allG (wE:World)(base gc gq gw ga gr:Nat)(hE:wE.heap.size<=base)(hbg:base<=gc):∀d,WrOkG wE base gc gq gw ga gr d (lenB 3 d)
 | 0=>fun b o T hp=>by obtain⟨e,he⟩:=hp.pos;omega
 | 1=>fun b o T hp w A c hs hc hl=>by
  obtain⟨n,hn⟩:=hp.node;have IH:WrOkG wE base gc gq gw ga gr 0 2:=fun b o T hp=>by obtain⟨e,he⟩:=hp.pos;omega
  refine hwrite_G wE base gc gq gw ga gr 0 2 (lenB 3 1) hE hbg IH om (by simp[lenB]) b o n T hn (fun h1=>?_) hp.pn.lt w A c hs hc hl;obtain⟨kb,ko,_,hk⟩:=hn.kid 0 (by have:=hn.len;omega);obtain⟨e,he⟩:=hk.pos;omega
 | d+2=>fun b o T hp w A c hs hc hl=>by
  obtain⟨n,hn⟩:=hp.node;have hB:=(lenB_pos (Nat.le_refl 3) (d+1)).2 om;have h3:lenB 3 (d+1)*3<=lenB 3 (d+2):=Nat.le_refl _;exact hwrite_G wE base gc gq gw ga gr (d+1) (lenB 3 (d+1)) (lenB 3 (d+2)) hE hbg (hwrite_allG wE base gc gq gw ga gr hE hbg (d+1)) om om b o n T hn (fun _=>h3) hp.pn.lt w A c hs hc hl
structure VT (caps top:Int)(w:World)(gs gg gp gt gw:Nat)(k:Nat):Prop where
 s:Blk w gs 3 #[.int .i64 k]
 g:Blk w gg 4 #[.bool true]
 p:∃cs,Blk w gp 63 cs/\cs[8]? = some (.int .i64 caps)
 t:Blk w gt 3 #[.int .i64 top]
 f:Blk w gw 270 #[.func (Fn.func 156) #[] #[.pointer (some ⟨gs,0,none⟩),.pointer (some ⟨gg,0,none⟩),.pointer (some ⟨gp,0,none⟩),.pointer (some ⟨gt,0,none⟩),.pointer (some ⟨gw,0,none⟩)]]
 ne:gs≠gt
section
variable {caps top:Int} {w w':World} {gs gg gp gt gw k:Nat}
theorem VT.ext (h:VT caps top w gs gg gp gt gw k)(x:Ext w w'):VT caps top w' gs gg gp gt gw k:=⟨h.s.ext x,h.g.ext x,by obtain⟨cs,h1,h2⟩:=h.p;exact⟨cs,h1.ext x,h2⟩,h.t.ext x,h.f.ext x,h.ne⟩
theorem VT.setS (h:VT caps top w gs gg gp gt gw k):VT caps top (w.setCell ⟨gs,0,none⟩ (.int .i64 ((k:Int)+1))) gs gg gp gt gw (k+1):=by
 obtain⟨cs,h1,h2⟩:=h.p;exact⟨Blk.set h.s 0 (.int .i64 ((k:Int)+1)),h.g.far (Blk.neT h.g h.s de) _,⟨cs,h1.far (Blk.neT h1 h.s de) _,h2⟩,h.t.far h.ne.symm _,h.f.far (Blk.neT h.f h.s de) _,h.ne⟩
theorem VT.setG (h:VT caps top w gs gg gp gt gw k):VT caps top (w.setCell ⟨gg,0,none⟩ (.bool true)) gs gg gp gt gw k:=by
 obtain⟨cs,h1,h2⟩:=h.p;exact⟨h.s.far (Blk.neT h.s h.g de) _,Blk.set h.g 0 (.bool true),⟨cs,h1.far (Blk.neT h1 h.g de) _,h2⟩,h.t.far (Blk.neT h.t h.g de) _,h.f.far (Blk.neT h.f h.g de) _,h.ne⟩
end
def RetVt (caps top:Int)(gs gg gp gt gw k:Nat)(w:World)(e:Ending)(w':World):Prop:=e=.returned (.bool true)/\VT caps top w' gs gg gp gt gw k/\KpP (VQ gs gg) w w'
def cntK (l:List Tm)(i:Nat):Nat:=((l.take i).map cnt).sum
theorem cntK_succ (l:List Tm)(i:Nat)(hi:i<l.length):cntK l (i+1)=cntK l i+cnt l[i]:=by
 unfold cntK;rw[List.take_succ_eq_append_getElem hi,List.map_append,List.sum_append];simp
theorem cntK_le (l:List Tm)(i:Nat):cntK l i<=(l.map cnt).sum:=by
 unfold cntK
 conv=>rhs;rw[<-List.take_append_drop i l,List.map_append,List.sum_append]
 omega
theorem cntK_all (l:List Tm){i:Nat}(hi:l.length<=i):cntK l i=(l.map cnt).sum:=by unfold cntK;rw[List.take_of_length_le hi]
theorem cnt_pos (T:Tm):1<=cnt T:=by rw[cnt_eq];omega
theorem valid1_stepG (u:Int)(wB:World)(caps top:Int)(ht:255<=top/\top<=1114111)(gs gg gp gt gw:Nat)(hgs:wB.heap.size<=gs/\wB.heap.size<=gg)(d:Nat)
 (IH:∀(w:World) (_:Ext wB w) (k:Nat) (_:VT caps top w gs gg gp gt gw k) (b o:Nat) (T:Tm) (_:PgAt wB b o d T) (_:GdT u caps T) (_:k+cnt T<=256) (dp:Int) (_:0<=dp/\dp+d<=25),
  Calls Tryz.prog 156 #[.pointer (some ⟨b,o,none⟩),.int .i64 dp,.pointer (some ⟨gs,0,none⟩),.pointer (some ⟨gg,0,none⟩),.pointer (some ⟨gp,0,none⟩),.pointer (some ⟨gt,0,none⟩),.pointer (some ⟨gw,0,none⟩)] w (RetVt caps top gs gg gp gt gw (k+cnt T) w))
 (w:World) (x0:Ext wB w) (k:Nat) (hv:VT caps top w gs gg gp gt gw k) (b o:Nat) (T:Tm) (hp:PgAt wB b o (d+1) T) (hG:GdT u caps T) (hk:k+cnt T<=256) (dp:Int) (hd:0<=dp/\dp+(d+1:Nat)<=25) :
 Calls Tryz.prog 156 #[.pointer (some ⟨b,o,none⟩),.int .i64 dp,.pointer (some ⟨gs,0,none⟩),.pointer (some ⟨gg,0,none⟩),.pointer (some ⟨gp,0,none⟩),.pointer (some ⟨gt,0,none⟩),.pointer (some ⟨gw,0,none⟩)] w (RetVt caps top gs gg gp gt gw (k+cnt T) w):=by
 obtain⟨n,hn⟩:=hp.node;have HN:=lh hn;have hcap:n.ks.length<=n.kc/\n.kc<=9223372036854775807:=⟨hn.pn.le,by have:=hn.pn.cap;unfold maxLen at this;omega⟩;have hfew:n.ks.length<=3:=hn.pn.ok.few;have HLEN:=lh hn.len;have HGD:=lh hG;have HCT:=lh (cnt_eq T);have s0:w.cell? ⟨gs,0,none⟩=some (.int .i64 k):=hv.s.cell 0;have s1:=hv.s.frz 0;have V1:=lh hv.setS;have K1:=lh ((KpP.refl (VQ gs gg) w).set (x:=⟨gs,0,none⟩) (.inl (.inl rfl)) (.int .i64 ((k:Int)+1)));have HXK:=fun(W W':World) (x:Ext wB W) (kk:KpP (VQ gs gg) W W')=>Ext.kp x kk (fun i hi=>by rcases hi with rfl|rfl;exact hgs.1;exact hgs.2);have hk1:=cnt_pos T;have h256:¬(256:Int)<(k:Int)+1:=om;have h24:¬(24:Int)<dp:=om;have HK:=lh hk;clear hn hp hv hG hk hk1;go_enter Tryz.func156,Tryz.ntmps156
 go_upto_region 2 with fail
 generalize w.setCell ⟨gs,0,none⟩ (.int .i64 ((k:Int)+1))=w1 at *;have X1:=lh (HXK w w1 x0 K1.out);clear s0 s1;have s0:w1.cell? ⟨gs,0,none⟩=some (.int .i64 ((k:Int)+1)):=V1.out.s.cell 0;obtain⟨cs,hp,hp8⟩:=V1.out.p;have g0:w1.cell? ⟨gg,0,none⟩=some (.bool true):=V1.out.g.cell 0;have g1:=V1.out.g.frz 0;have t0:w1.cell? ⟨gt,0,none⟩=some (.int .i64 top):=V1.out.t.cell 0;have p8:w1.cell? ⟨gp,8,none⟩=some (.int .i64 caps):=by rw[hp.cell 8];exact hp8
 clear hp hp8
 go_upto_region 4 with fail
 have HF:=lh (hformed_G u w1 b o d n T (HN.out.ext X1.out) caps top HGD.out ht);have HG2:=fun(w':World) (x:Ext w1 w')=>lh (And.intro ((V1.out.g.ext x).cell 0) ((V1.out.g.ext x).frz 0))
 go_upto_region 5 with(go_at_call 157;refine HF.out.mono ?_;rintro e w2 ⟨rfl,x2⟩;have q0:=(HG2 w2 x2).out.1;have q1:=(HG2 w2 x2).out.2)
 have V3:=lh ((V1.out.ext x2).setG);have K3:=lh ((K1.out.thenExt x2).trans ((KpP.refl (VQ gs gg) w2).set (x:=⟨gg,0,none⟩) (.inl (.inr rfl)) (.bool true)));generalize w2.setCell ⟨gg,0,none⟩ (.bool true)=w3 at *;clear q0 q1 x2 HF HG2 g0 g1 t0 p8 s0;have X3:=lh (HXK w w3 x0 K3.out);have c2:=(HN.out.ext X3.out).pn.p.c8.2.2.1;have hwd:IntKind.i64.wrap (dp+1)=dp+1:=wj
 go_upto_region 6 with fail
 clear c2;have V30:Hid (VT caps top w3 gs gg gp gt gw (k+1+cntK T.kids 0)):=lh (by have:=V3.out;simpa[cntK] using this)
 go_loopw [32] (fun v wr=>∃i:Nat,v=.int .i64 i/\i<=n.ks.length/\Hid (VT caps top wr gs gg gp gt gw (k+1+cntK T.kids i))/\Hid (KpP (VQ gs gg) w wr)) (fun v _=>n.ks.length-(intOf v).toNat)
 case atStart=>exact⟨0,rfl,Nat.zero_le _,V30,K3⟩
 case round=>
  clear V3 V30 K3 X3;obtain⟨i,rfl,hi,VR,KR⟩:=hrel;have XR:=lh (HXK w wr x0 KR.out);by_cases hlt:i<n.ks.length
  ·have hj:i<T.kids.length:=by have:=HLEN.out;omega
   obtain⟨kb,ko,eK,HKID⟩:=HN.out.kid i hj;have cr:=(HN.out.ext XR.out).pn.p.c8.2.2.1;rw[eK] at cr;have w0:wr.cell? ⟨gw,0,none⟩=some (.func (Fn.func 156) #[] #[.pointer (some ⟨gs,0,none⟩),.pointer (some ⟨gg,0,none⟩),.pointer (some ⟨gp,0,none⟩),.pointer (some ⟨gt,0,none⟩),.pointer (some ⟨gw,0,none⟩)]):=VR.out.f.cell 0;have HKI:=lh HKID;have nw:gw∉[gs,gg]:=fun e=>by
    simp only[List.mem_cons,List.not_mem_nil,or_false] at e;rcases e with e|e
    ·exact Blk.neT VR.out.f VR.out.s de e
    ·exact Blk.neT VR.out.f VR.out.g de e
   have nb:b∉[gs,gg]:=fun e=>by
    have hb:b<wB.heap.size:=World.block_lt_of_cell? _ _ (HN.out.pn.p.c8.1);simp only[List.mem_cons,List.not_mem_nil,or_false] at e;omega
   have HC1:=lh (cntK_succ T.kids i hj);have HC2:=lh (cntK_le T.kids (i+1));have d0:=fun(w':World) (h:Kp [gs,gg] wr w')=>h.cell w0 nw;have d1:=fun(w':World) (h:Kp [gs,gg] wr w')=>h.cell cr nb;clear w0 cr nw nb HKID eK
   go_upto_region 8 with fail
   refine Xr.start [gs,gg] kr ?_;refine Xtk 0 ?_
   iterate 8(refine Xtn ?_)
   clear d0 d1;refine Xsp 9 fun w5 hE5 hK5 K hKK=>?_;go_simp;refine(IH w5 (HXK wr w5 XR.out hK5.vq) (k+1+cntK T.kids i) (VR.out.ext hE5) kb (ko+i*8) T.kids[i] HKI.out (HGD.out.at_.2 i hj) (by have:=HC1.out;have:=HC2.out;have:=HCT.out;have:=HK.out;omega) (dp+1) om).mono ?_;rintro e w6 ⟨rfl,v6,kp6⟩;refine hKK _ _ (WI_kp kp6 (by simp[VQ])) (hK5.kpP kp6 (by simp[VQ])) ?_;clear hKK;refine ptm ?_;refine Xtk 10 ?_;refine Xdn fun w7 hE7 hK7=>?_;have V7:Hid (VT caps top w7 gs gg gp gt gw (k+1+cntK T.kids (i+1))):=lh (by rw[HC1.out,<-Nat.add_assoc];exact v6.ext hE7);have K7:=lh (KR.out.trans hK7.vq);clear hE5 hK5 v6 kp6 hE7 hK7
   go_wp2_with fail
   go_roundw
   case rel=>exact⟨i+1,by go_num,om,V7,K7⟩
   case measure=>simp[intOf];omega
  ·have hle:(n.ks.length:Int)<=i:=om;have HF:Hid (VT caps top wr gs gg gp gt gw (k+cnt T)):=lh (by
    have h:=VR.out;rw[cntK_all T.kids (by have:=HLEN.out;omega)] at h;rw[HCT.out,<-Nat.add_assoc];exact h)
   go_wp2_with fail
   go_ret
   exact⟨rfl,HF.out,KR.out⟩
theorem valid1_G (u:Int)(wB:World)(caps top:Int)(ht:255<=top/\top<=1114111)(gs gg gp gt gw:Nat)(hgs:wB.heap.size<=gs/\wB.heap.size<=gg):∀(d:Nat) (w:World) (_:Ext wB w) (k:Nat) (_:VT caps top w gs gg gp gt gw k) (b o:Nat) (T:Tm) (_:PgAt wB b o d T) (_:GdT u caps T) (_:k+cnt T<=256) (dp:Int) (_:0<=dp/\dp+d<=25),
 Calls Tryz.prog 156 #[.pointer (some ⟨b,o,none⟩),.int .i64 dp,.pointer (some ⟨gs,0,none⟩),.pointer (some ⟨gg,0,none⟩),.pointer (some ⟨gp,0,none⟩),.pointer (some ⟨gt,0,none⟩),.pointer (some ⟨gw,0,none⟩)] w (RetVt caps top gs gg gp gt gw (k+cnt T) w)
 | 0,w,_,k,_,b,o,T,hp,_,_,dp,_=>by obtain⟨e,he⟩:=hp.pos;omega
 | d+1,w,x0,k,hv,b,o,T,hp,hg,hk,dp,hd=>valid1_stepG u wB caps top ht gs gg gp gt gw hgs d (valid1_G u wB caps top ht gs gg gp gt gw hgs d) w x0 k hv b o T hp hg hk dp hd
theorem patN_pg {d:Nat}{S:Nat->Prop}{w w':World}{gp:Nat}{n:Nd}{caps:Int}{rn:Bool}{T:Tm}(ht:TreeG 3 S w d n.val T)(x:Ext w w')(h:Blk w' gp 63 (patN n caps rn)):PgAt w' gp 0 d T:=by
 refine⟨n,fun i hi=>?_,(ht.imp (fun _ _ _=>trivial)).ext x⟩;have hi8:i<8:=by simpa[Nd.cs] using hi
 rw[Nat.zero_add,h.cell i];have:i=0\/i=1\/i=2\/i=3\/i=4\/i=5\/i=6\/i=7:=om;rcases this with rfl|rfl|rfl|rfl|rfl|rfl|rfl|rfl<;>rfl
theorem hvalid_G (u:Int)(d:Nat)(S:Nat->Prop)(w:World)(n:Nd)(caps:Int)(rn:Bool)(T:Tm)(ht:TreeG 3 S w d n.val T)(hg:GdT u caps T)(hc:cnt T<=256)(hd:d<=24)(hcap:0<=caps/\caps<=9):Calls Tryz.prog 78 #[.agg (patN n caps rn)] w (RetV (.int .i64 0) w):=by
 have X0:=Ext.alloc w (.cells (patN n caps rn) 63);have B0:=Blk.new w 63 (patN n caps rn);have HPN:=lh (patN_pg ht X0 B0);have HX0:=lh X0;unfold patN at B0 HPN HX0;unfold patN;go_enter Tryz.func78,Tryz.ntmps78
 go_upto_region 1 with fail
 obtain⟨gp,hgp⟩:∃g,g=w.heap.size:=⟨_,rfl⟩
 rw[<-hgp] at B0 HPN ⊢;clear hgp X0;generalize w.alloc (.cells #[.int .i64 n.op,.slice n.A n.l.length n.c,.slice n.K n.ks.length n.kc,.int .i64 n.mn,.int .i64 n.mx,.int .i64 n.md,.int .i64 n.n,.bool n.neg,.int .i64 caps,.bool rn] 63)=w1 at *;have X1:=Ext.alloc w1 (.cells #[.int .i64 0] 3);have B1:=Blk.new w1 3 #[.int .i64 0]
 go_upto_region 2 with fail
 obtain⟨gs,hgs⟩:∃g,g=w1.heap.size:=⟨_,rfl⟩
 rw[<-hgs] at B1 ⊢;have Hgs:=lh hgs;clear hgs;generalize w1.alloc (.cells #[.int .i64 0] 3)=w2 at *;have HB0:=lh (B0.ext X1);have HXd:=lh X1;have p8:w2.cell? ⟨gp,8,none⟩=some (.int .i64 caps):=HB0.out.cell 8;have p9:w2.cell? ⟨gp,9,none⟩=some (.bool rn):=HB0.out.cell 9;clear B0 X1;have hc0:0<=caps:=hcap.1;have hc9:caps<=9:=hcap.2;have X2:=Ext.alloc w2 (.cells #[.bool true] 4);have B2:=Blk.new w2 4 #[.bool true]
 go_upto_region 3 with fail
 obtain⟨gg,hgg⟩:∃g,g=w2.heap.size:=⟨_,rfl⟩
 rw[<-hgg] at B2 ⊢;have Hgg:=lh hgg;clear hgg;generalize w2.alloc (.cells #[.bool true] 4)=w3 at *;replace p8:=X2.cell p8;replace p9:=X2.cell p9
 go_upto_region 4 with(go_at_call 155;refine(topN_any w3 rn).mono ?_;rintro e w4 ⟨rfl,x4⟩;have HX4:=lh x4)
 have X4:=Ext.alloc w4 (.cells #[.int .i64 (topI rn)] 3);have B4:=Blk.new w4 3 #[.int .i64 (topI rn)];obtain⟨gt,hgt⟩:∃g,g=w4.heap.size:=⟨_,rfl⟩
 rw[<-hgt] at B4 ⊢;have hne:gs≠gt:=by have h1:=(B1.ext X2).lt;have h2:=HX4.out.size;omega
 clear hgt;generalize w4.alloc (.cells #[.int .i64 (topI rn)] 3)=w5 at *
 go_upto_region 5 with fail
 have X5:=Ext.alloc w5 (.cells #[.nilFunc] 270);have B5:=Blk.new w5 270 #[.nilFunc];obtain⟨gw,hgw⟩:∃g,g=w5.heap.size:=⟨_,rfl⟩
 rw[<-hgw] at B5 ⊢;have hlow:w5.heap.size<=gw:=om;clear hgw;generalize w5.alloc (.cells #[.nilFunc] 270)=w6 at *;have z0:w6.cell? ⟨gw,0,none⟩=some .nilFunc:=B5.cell 0;have z1:=B5.frz 0;obtain⟨FN,hFN⟩:∃FN,FN=Value.func (Fn.func 156) #[] #[.pointer (some ⟨gs,0,none⟩),.pointer (some ⟨gg,0,none⟩),.pointer (some ⟨gp,0,none⟩),.pointer (some ⟨gt,0,none⟩),.pointer (some ⟨gw,0,none⟩)]:=⟨_,rfl⟩;have B6:Blk (w6.setCell ⟨gw,0,none⟩ FN) gw 270 #[FN]:=Blk.set B5 0 FN;have X6:Ext w5 (w6.setCell ⟨gw,0,none⟩ FN):=X5.setNew (p:=⟨gw,0,none⟩) hlow FN;rw[hFN] at B6 X6;have hst:(store ⟨gw,0,none⟩ (.func (Fn.func 156) #[] #[.pointer (some ⟨gs,0,none⟩),.pointer (some ⟨gg,0,none⟩),.pointer (some ⟨gp,0,none⟩),.pointer (some ⟨gt,0,none⟩),.pointer (some ⟨gw,0,none⟩)])).run Tryz.prog w6=.ok () (w6.setCell ⟨gw,0,none⟩ (.func (Fn.func 156) #[] #[.pointer (some ⟨gs,0,none⟩),.pointer (some ⟨gg,0,none⟩),.pointer (some ⟨gp,0,none⟩),.pointer (some ⟨gt,0,none⟩),.pointer (some ⟨gw,0,none⟩)])):=by
  rw[run_store Tryz.prog w6 _ _ _ rfl,z0];simp[z1]
 go_upto_region 6 with fail
 generalize w6.setCell ⟨gw,0,none⟩ (.func (Fn.func 156) #[] #[.pointer (some ⟨gs,0,none⟩),.pointer (some ⟨gg,0,none⟩),.pointer (some ⟨gp,0,none⟩),.pointer (some ⟨gt,0,none⟩),.pointer (some ⟨gw,0,none⟩)])=w7 at *;clear hFN z0 z1 hst B5 X5;have XA:=lh (X4.trans X6);have XB:=lh (HX4.out.trans XA.out);have XC:=lh (X2.trans XB.out);have XD:=lh (HXd.out.trans XC.out);have V7:VT caps (topI rn) w7 gs gg gp gt gw 0:=⟨B1.ext XC.out,B2.ext XB.out,⟨_,HB0.out.ext XC.out,rfl⟩,B4.ext X6,B6,hne⟩;have HC:=lh (valid1_G u w1 caps (topI rn) (topI_bd rn) gs gg gp gt gw ⟨by have:=Hgs.out;omega,by have:=Hgg.out;have:=HXd.out.size;omega⟩ d w7 XD.out 0 V7 gp 0 T HPN.out hg om 1 om);have w00:w7.cell? ⟨gw,0,none⟩=some (.func (Fn.func 156) #[] #[.pointer (some ⟨gs,0,none⟩),.pointer (some ⟨gg,0,none⟩),.pointer (some ⟨gp,0,none⟩),.pointer (some ⟨gt,0,none⟩),.pointer (some ⟨gw,0,none⟩)]):=V7.f.cell 0;have HLO:Hid (w.heap.size<=gs/\w.heap.size<=gg):=lh (by have a1:=Hgs.out;have a2:=Hgg.out;have a3:=HX0.out.size;have a4:=HXd.out.size;omega);have XE:=lh (HX0.out.trans XD.out);clear B1 B2 B4 B6 p8 p9 X2 x4 X4 X6 hne V7
 go_wp2_with (go_at_call 156;refine HC.out.mono ?_;rintro e w8 ⟨rfl,v8,k8⟩;have g8:w8.cell? ⟨gg,0,none⟩=some (.bool true):=v8.g.cell 0;have XF:=lh (Ext.kp XE.out k8 (fun i hi=>by rcases hi with rfl|rfl;exact HLO.out.1;exact HLO.out.2));clear v8 k8)
 go_ret
 exact⟨rfl,XF.out⟩
end
end Go.Proofs.YtmgpefenkilffaaGreat
