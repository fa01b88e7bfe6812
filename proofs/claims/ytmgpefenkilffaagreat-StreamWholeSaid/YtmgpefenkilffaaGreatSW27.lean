/- Texts of this proof: I5 OC I3. -/
import Derived.Test.YtmgpefenkilffaaGreatSW19
set_option linter.all false
set_option maxRecDepth 100000
set_option maxHeartbeats 16000000
namespace Go.Proofs.YtmgpefenkilffaaGreat
section
open Go.RowKit
attribute [local go_sem ↓] Go.wp_at_zero Go.wp_at_succ
def RetSpE (p q m:Int)(w:World)(e:Ending)(w':World):Prop:=∃x y:Int,e=.returned (.agg #[.int .i64 2,.int .i64 x,.int .i64 y,.int .i64 0,.slice none 0 0])/\I64 x/\I64 y/\Ext w w'/\((m=1/\x=q/\y=p)\/(m≠1/\x=p/\y=q))
theorem hsplit_G (w:World)(p q m:Int)(hp:I64 p)(hq:I64 q):Calls Tryz.prog 162 #[.int .i64 p,.int .i64 q,.int .i64 m] w (RetSpE p q m w):=by
 have E0:=Ext.alloc w (.cells #[.int .i64 0,.int .i64 0,.int .i64 0,.int .i64 0,.slice none 0 0] 129);have B0:=Blk.new w 129 #[.int .i64 0,.int .i64 0,.int .i64 0,.int .i64 0,.slice none 0 0];go_enter Tryz.func162,Tryz.ntmps162
 go_upto_region 1 with fail
 obtain⟨g,hg⟩:∃g,g=w.heap.size:=⟨_,rfl⟩
 rw[<-hg] at B0 ⊢;have hgl:w.heap.size<=g:=om;clear hg;generalize w.alloc (.cells #[.int .i64 0,.int .i64 0,.int .i64 0,.int .i64 0,.slice none 0 0] 129)=w1 at *;have fin:∀x y:Int,Hid (Blk (setQ5 w1 g 0 2 x y 0) g 129 #[.int .i64 2,.int .i64 x,.int .i64 y,.int .i64 0,.slice none 0 0]/\Ext w (setQ5 w1 g 0 2 x y 0)):=fun x y=>lh ⟨by
  have:=((((B0.set 0 (.int .i64 2)).set 1 (.int .i64 x)).set 2 (.int .i64 y)).set 3 (.int .i64 0)).set 4 (.slice none 0 0)
  simpa[setQ5] using this,
  (((((E0.setNew (p:=⟨g,0,none⟩) hgl _).setNew (p:=⟨g,1,none⟩) hgl _).setNew (p:=⟨g,2,none⟩) hgl _).setNew (p:=⟨g,3,none⟩) hgl _).setNew (p:=⟨g,4,none⟩) hgl _)⟩
 obtain⟨z0,z1,z2,z3,z4⟩:w1.cell? ⟨g,0,none⟩=some (.int .i64 0)/\w1.cell? ⟨g,1,none⟩=some (.int .i64 0)/\w1.cell? ⟨g,2,none⟩=some (.int .i64 0)/\w1.cell? ⟨g,3,none⟩=some (.int .i64 0)/\w1.cell? ⟨g,4,none⟩=some (.slice none 0 0):=⟨B0.cell 0,B0.cell 1,B0.cell 2,B0.cell 3,B0.cell 4⟩;have f0:=B0.frz 0;have f1:=B0.frz 1;have f2:=B0.frz 2;have f3:=B0.frz 3;have f4:=B0.frz 4;clear B0 E0;by_cases hm:m=1
 ·subst hm
  go_wp2_with fail
  change bodyPost _ _ _ _ _ (setQ5 w1 g 0 2 q p 0);have F:=fin q p;generalize setQ5 w1 g 0 2 q p 0=w2 at *;have r0:w2.cell? ⟨g,0,none⟩=_:=F.out.1.cell 0;have r1:w2.cell? ⟨g,1,none⟩=_:=F.out.1.cell 1;have r2:w2.cell? ⟨g,2,none⟩=_:=F.out.1.cell 2;have r3:w2.cell? ⟨g,3,none⟩=_:=F.out.1.cell 3;have r4:w2.cell? ⟨g,4,none⟩=_:=F.out.1.cell 4;exact bodyPost_ret (v:=.agg #[.int .i64 2,.int .i64 q,.int .i64 p,.int .i64 0,.slice none 0 0]) (by simp[results,Tryz.results162,go_sem,r0,r1,r2,r3,r4]) rfl ⟨q,p,rfl,hq,hp,F.out.2,.inl ⟨rfl,rfl,rfl⟩⟩
 ·have hb:(m == 1)=false:=by simp[hm]
  go_wp2_with fail
  change bodyPost _ _ _ _ _ (setQ5 w1 g 0 2 p q 0);have F:=fin p q;generalize setQ5 w1 g 0 2 p q 0=w2 at *;have r0:w2.cell? ⟨g,0,none⟩=_:=F.out.1.cell 0;have r1:w2.cell? ⟨g,1,none⟩=_:=F.out.1.cell 1;have r2:w2.cell? ⟨g,2,none⟩=_:=F.out.1.cell 2;have r3:w2.cell? ⟨g,3,none⟩=_:=F.out.1.cell 3;have r4:w2.cell? ⟨g,4,none⟩=_:=F.out.1.cell 4;exact bodyPost_ret (v:=.agg #[.int .i64 2,.int .i64 p,.int .i64 q,.int .i64 0,.slice none 0 0]) (by simp[results,Tryz.results162,go_sem,r0,r1,r2,r3,r4]) rfl ⟨p,q,rfl,hp,hq,F.out.2,.inr ⟨hm,rfl,rfl⟩⟩
def RetWe (F:List Ins->List Ins)(wE:World)(base gc gq gw ga gr:Nat)(w:World)(A:Option Addr)(hs:List Hin)(B:Nat)(e:Ending)(w':World):Prop:=
 ∃(hs':List Hin) (A':Option Addr) (c':Nat),e=.returned (.tuple #[])/\CS wE base gc gq gw ga gr w' A' c' hs'/\CT gc A w A' w'/\hs.length<=hs'.length/\hs'.length+2<=hs.length+B/\Hid (insL hs'=F (insL hs))
def WrOkG (wE:World)(base gc gq gw ga gr d B:Nat):Prop:=∀(b o:Nat) (T:Tm),PgAt wE b o d T->∀(w:World) (A:Option Addr) (c:Nat) (hs:List Hin),CS wE base gc gq gw ga gr w A c hs->hs.length+B<=100000->
 Calls Tryz.prog 164 #[.pointer (some ⟨b,o,none⟩),.pointer (some ⟨gq,0,none⟩),.pointer (some ⟨gw,0,none⟩),.pointer (some ⟨ga,0,none⟩),.pointer (some ⟨gr,0,none⟩)] w (RetWe (codeT T) wE base gc gq gw ga gr w A hs B)
def KidsG (wE:World)(K:Option Addr)(ts:List Tm)(d:Nat):Prop:=∀i (hi:i<ts.length),∃kb ko,K=some ⟨kb,ko,none⟩/\PgAt wE kb (ko+i*8) d ts[i]
theorem halt_G (wE:World)(base gc gq gw ga gr d B:Nat)(hE:wE.heap.size<=base)(hbg:base<=gc)(IH:WrOkG wE base gc gq gw ga gr d B)(hB:2<=B)
 (K:Option Addr) (kc m:Nat) (ts:List Tm) (hts:ts.length=m+1) (hk:KidsG wE K ts d) (hm:1<=m/\m<=2) (hkc:m+1<=kc/\kc<=9223372036854775807)
 (w:World) (A:Option Addr) (c:Nat) (hs:List Hin) (hc:CS wE base gc gq gw ga gr w A c hs) (hl:hs.length+B*3<=100000) :
 Calls Tryz.prog 163 #[.slice K (m+1) kc,.pointer (some ⟨gq,0,none⟩),.pointer (some ⟨gw,0,none⟩),.pointer (some ⟨gc,0,none⟩)] w (RetWe (altC (ts.map codeT)) wE base gc gq gw ga gr w A hs (B*3)):=by
 obtain⟨kb,ko,rfl,hk0⟩:=hk 0 om;have HK:=lh hk;have HTS:=lh hts;have HC:=lh hc;have hwl:=hc.b.lt;have hmI:(1:Int)<=m/\(m:Int)<=2:=om;have hBm:=mul_le2 (B:=B) (show m<=2 from hm.2);clear hk0 hk hc hts;go_enter Tryz.func163,Tryz.ntmps163
 go_upto_region 2 with fail
 have HC1:=HC;have HT0:=lh (CT.refl gc A w);have HL0:Hid (hs.length<=hs.length/\hs.length<=hs.length+B*0):=lh om;have HE0:Hid ((insL hs,([]:List Nat))=altP ts 0 (insL hs)):=lh rfl
 go_loopw [5,16] (fun v5 v16 wr=>∃(i:Nat) (J:Option Addr) (jc:Nat) (js:List Nat) (A1:Option Addr) (c1:Nat) (hs1:List Hin),v5=.slice J i jc/\v16=.int .i64 i/\i<=m/\Hid (CS wE base gc gq gw ga gr wr A1 c1 hs1)/\Hid (CT gc A w A1 wr)/\Hid (OwnJ wr w.heap.size J i jc js)/\Hid (∀x∈js,x<hs1.length)/\Hid (hs.length<=hs1.length/\hs1.length<=hs.length+B*i)/\Hid ((insL hs1,js)=altP ts i (insL hs))) (fun _ v _=>m-(intOf v).toNat)
 case atStart=>exact⟨0,none,0,[],A,c,hs,rfl,rfl,om,HC,HT0,lh (OwnJ.nil _ _),lh si,HL0,HE0⟩
 case round=>
  clear HC HC1 HT0 HL0 HE0;obtain⟨i,J,jc,js,A1,c1,hs1,rfl,rfl,hi,HC,HT,HJ,HX,HL,HE⟩:=hrel;by_cases hlt:i<m
  ·have hltI:(i:Int)<m:=om;have q0:wr.cell? ⟨gq,0,none⟩=some (.func (Fn.func 160) #[] #[.pointer (some ⟨gc,0,none⟩)]):=HC.out.bx.wb.q.cell 0;have HP:=lh (hput_cs wE wr base gc gq gw ga gr hE hbg A1 c1 hs1 HC.out (by have:=HL.out;have:=mul_le2 (B:=B) (show i<=2 by omega);omega) (by have:=HC.out.b.lt;omega) (hin0 0) (hin0_wf (by unfold I64;omega)) (OwnP.nil _ _) (by simp[hin0]) (SetE.nil _));unfold hin0 at HP
   go_upto_region 4 with fail
   go_upto_region 5 with(go_at_call 160;refine HP.out.mono ?_;rintro e w2 ⟨A2,c2,rfl,hc2,ht2⟩)
   have HC2:=lh hc2;have HT2:=lh (HT.out.trans ht2);have HJ2:=lh (HJ.out.ct HC.out.b ht2);clear HC HT HJ HP q0 hc2 ht2;obtain⟨hs2,hs2e⟩:∃l,l=hs1++[⟨0,0,0,0,none,0,[]⟩]:=⟨_,rfl⟩
   rw[<-hs2e] at HC2;have hl2:hs2.length=hs1.length+1:=by rw[hs2e];simp
   have HL2:=lh hl2;have HI2:Hid (insL hs2=insL hs1++[⟨0,0,0,0,[]⟩]):=lh (by rw[hs2e,insL_append];rfl);clear hs2e hl2;have c5:w2.cell? ⟨gw,0,none⟩=some (.func (Fn.func 164) #[] #[.pointer (some ⟨gq,0,none⟩),.pointer (some ⟨gw,0,none⟩),.pointer (some ⟨ga,0,none⟩),.pointer (some ⟨gr,0,none⟩)]):=HC2.out.bx.wb.w.cell 0;have d0:=fun(w':World) (h:Kp (gc::bl A2) w2 w')=>h.cell c5 (HC2.out.nin HC2.out.bx.wb.w de de);have hiI:(i:Int)<(m:Int)+1:=om;clear c5;refine Xr.start (gc::bl A2) kr ?_;refine Xtk 0 ?_
   iterate 3(refine Xtn ?_)
   clear d0;refine Xsp 4 fun w3 hE3 hK3 Kk hKK=>?_;go_simp;have HI:=lh (HK.out i (by have:=HTS.out;omega));obtain⟨kb',ko',ek,hpk⟩:=HI.out;injection ek with ek;injection ek with ek1 ek2
   subst ek1 ek2;refine(IH _ _ _ hpk w3 A2 c2 hs2 (HC2.out.ext hE3) (by have:=HL.out;have:=HL2.out;have:=mul_step B i;have:=mul_le2 (B:=B) (show i+1<=2 by omega);omega)).mono ?_;rintro e w4 ⟨hs4,A4,c4,rfl,hc4,ht4,hlo4,hhi4,HI4⟩;refine hKK _ _ (WI_kp ht4.kp CQ.mem) (hK3.kpP ht4.kp CQ.mem) ?_;clear hKK;refine ptm ?_;refine Xdn fun w5 hE5 hK5=>?_;have T5:=lh (((CT.of_ext gc A2 hE3).trans ht4).trans (CT.of_ext gc A4 hE5));have HC5:=lh (hc4.ext hE5);have HT5:=lh (HT2.out.trans T5.out);have HJ5:=lh (HJ2.out.ct HC2.out.b T5.out);have HL5:=lh (And.intro hlo4 hhi4);clear hE3 hK3 hE5 hK5 hc4 ht4 hlo4 hhi4 HC2 HT2 HJ2 T5 hpk;have hs1b:hs1.length+1<=100000:=by have:=HL.out;have:=mul_le2 (B:=B) (show i<=2 by omega);omega
   have hs4b:hs4.length<=100000:=by have:=HL.out;have:=HL2.out;have:=HL5.out;have:=mul_step B i;have:=mul_le2 (B:=B) (show i+1<=2 by omega);omega
   have hwl5:w.heap.size<=w5.heap.size:=HT5.out.kp.size;have q0:w5.cell? ⟨gq,0,none⟩=some (.func (Fn.func 160) #[] #[.pointer (some ⟨gc,0,none⟩)]):=HC5.out.bx.wb.q.cell 0;have HP:=lh (hput_cs wE w5 base gc gq gw ga gr hE hbg A4 c4 hs4 HC5.out hs4b (by have:=HC5.out.b.lt;omega) (hin0 3) (hin0_wf (by unfold I64;omega)) (OwnP.nil _ _) (by simp[hin0]) (SetE.nil _));unfold hin0 at HP;have hAL:Hid (hs4.length<hs4.length+1):=lh om
   go_upto_region 7 with(first|(go_at_call 160;refine HP.out.mono ?_;rintro e w6 ⟨A6,c6,rfl,hc6,ht6⟩;have HJ6:=HJ5.out.ct HC5.out.b ht6)|(at_builtin;refine wpList_appJ (w1:=w6) rfl _ _ _ rfl infoInt Tryz.underlying22 w.heap.size (by have:=ht6.kp.size;omega) _ hs4.length rfl rfl J i jc js rfl HJ6 rfl om ?_;intro J7 jc7 w7 hj7 hg7))
   have HC7:=lh (hc6.grow HJ6 (Nat.le_trans hE (Nat.le_trans hbg (Nat.le_of_lt hwl))) hg7);have HT7:=lh ((HT5.out.trans ht6).grow HJ6 hg7);have HJ7:=lh hj7;clear HC5 HT5 HJ5 HP q0 hc6 ht6 hj7 hg7 HJ6;obtain⟨hs6,hs6e⟩:∃l,l=hs4++[⟨3,0,0,0,none,0,[]⟩]:=⟨_,rfl⟩
   rw[<-hs6e] at HC7;have hl6:hs6.length=hs4.length+1:=by rw[hs6e];simp
   have HI6:Hid (insL hs6=insL hs4++[⟨3,0,0,0,[]⟩]):=lh (by rw[hs6e,insL_append];rfl);have HL6:=lh hl6;clear hs6e;have hi1:hs1.length<hs6.length:=by have:=HL2.out;have:=HL5.out;omega
   have hi1I:(hs1.length:Int)<(hs6.length:Int):=om;obtain⟨g,eA,hbase,hcell⟩:=own_c5 HC7.out.o hi1;subst eA;obtain⟨v0,y0,f0⟩:=hcell 0 om;obtain⟨v1,y1,f1⟩:=hcell 1 om;obtain⟨v2,y2,f2⟩:=hcell 2 om;obtain⟨v3,y3,f3⟩:=hcell 3 om;obtain⟨v4,y4,f4⟩:=hcell 4 om;simp only[Nat.add_zero] at y0 f0;have HPUT:=lh (HC7.out.put5 hE hi1 rfl (op:=2) (x:=(hs1.length:Int)+1) (y:=(hs6.length:Int)) (n:=0) (by unfold I64;omega));have z0:w7.cell? ⟨gc,0,none⟩=some (.slice (some ⟨g,0,none⟩) hs6.length c6):=HC7.out.b.cell 0;have hcap:=OwnS.caps HC7.out.o;clear hcell hl6
   go_upto_region 8 with fail
   change Code.wp _ _ _ _ (setQ5 w7 g (hs1.length*5) 2 ((hs1.length:Int)+1) (hs6.length:Int) 0);have HC8:=lh HPUT.out.1;have HT8:=lh (HT7.out.trans HPUT.out.2);have HJ8:=lh (HJ7.out.ct HC7.out.b HPUT.out.2);have HL8:Hid (hs.length<=(hs6.set hs1.length ⟨2,(hs1.length:Int)+1,(hs6.length:Int),0,none,0,[]⟩).length/\(hs6.set hs1.length ⟨2,(hs1.length:Int)+1,(hs6.length:Int),0,none,0,[]⟩).length<=hs.length+B*(i+1)):=lh (by
    rw[List.length_set];have:=HL.out;have:=HL2.out;have:=HL5.out;have:=HL6.out;have:=mul_step B i;omega)
   have HX8:Hid (∀x∈js++[hs4.length],x<(hs6.set hs1.length ⟨2,(hs1.length:Int)+1,(hs6.length:Int),0,none,0,[]⟩).length):=lh (fun x hx=>by
    rw[List.length_set];have:=HL2.out;have:=HL5.out;have:=HL6.out;rcases List.mem_append.1 hx with hx|hx
    ·have:=HX.out x hx;omega
    ·rw[List.mem_singleton.1 hx];omega)
   have HE8:Hid ((insL (hs6.set hs1.length ⟨2,(hs1.length:Int)+1,(hs6.length:Int),0,none,0,[]⟩),js++[hs4.length])=altP ts (i+1) (insL hs)):=lh (by
    rw[altP_succ ts i _ (by have:=HTS.out;omega),<-HE.out];unfold altS
    simp only[<-HI2.out,<-HI4.out,<-HI6.out,insL_len,insL_set]
    rfl)
   generalize hs6.set hs1.length ⟨2,(hs1.length:Int)+1,(hs6.length:Int),0,none,0,[]⟩=hs8 at *;generalize setQ5 w7 g (hs1.length*5) 2 ((hs1.length:Int)+1) (hs6.length:Int) 0=w8 at *;clear y0 y1 y2 y3 y4 f0 f1 f2 f3 f4 z0 HPUT HC7 HT7 HJ7
   go_wp2_with fail
   go_roundw
   case rel=>exact⟨i+1,J7,jc7,js++[hs4.length],some ⟨g,0,none⟩,c6,hs8,rfl,by go_num,om,HC8,HT8,HJ8,HX8,HL8,HE8⟩
   case measure=>simp[intOf];omega
  ·have him:i=m:=om;subst him;have hltI:¬(i:Int)<(i:Int):=om;have c5:wr.cell? ⟨gw,0,none⟩=some (.func (Fn.func 164) #[] #[.pointer (some ⟨gq,0,none⟩),.pointer (some ⟨gw,0,none⟩),.pointer (some ⟨ga,0,none⟩),.pointer (some ⟨gr,0,none⟩)]):=HC.out.bx.wb.w.cell 0;have d0:=fun(w':World) (h:Kp (gc::bl A1) wr w')=>h.cell c5 (HC.out.nin HC.out.bx.wb.w de de);have hiI:(i:Int)<(i:Int)+1:=om;have hwi:IntKind.i64.wrap (i:Int)=i:=wj;clear c5
   go_upto_region 9 with fail
   refine Xr.start (gc::bl A1) kr ?_;refine Xtk 0 ?_
   iterate 5(refine Xtn ?_)
   clear d0 hwi;refine Xsp 6 fun w3 hE3 hK3 Kk hKK=>?_;go_simp;have HI:=lh (HK.out i (by have:=HTS.out;omega));obtain⟨kb',ko',ek,hpk⟩:=HI.out;injection ek with ek;injection ek with ek1 ek2
   subst ek1 ek2;refine(IH _ _ _ hpk w3 A1 c1 hs1 (HC.out.ext hE3) (by have:=HL.out;omega)).mono ?_;rintro e w4 ⟨hs4,A4,c4,rfl,hc4,ht4,hlo4,hhi4,HI4⟩;refine hKK _ _ (WI_kp ht4.kp CQ.mem) (hK3.kpP ht4.kp CQ.mem) ?_;clear hKK;refine ptm ?_;refine Xdn fun w5 hE5 hK5=>?_;have T5:=lh (((CT.of_ext gc A1 hE3).trans ht4).trans (CT.of_ext gc A4 hE5));have HC5:=lh (hc4.ext hE5);have HT5:=lh (HT.out.trans T5.out);have HJ5:=lh (HJ.out.ct HC.out.b T5.out);have HX5:Hid (∀x∈js,x<hs4.length):=lh (fun x hx=>by have:=HX.out x hx;omega);have HL5:Hid (hs.length<=hs4.length/\hs4.length+2<=hs.length+B*3):=lh (by have:=HL.out;omega);have HFIN:Hid (setJs js (hs4.length:Int) (insL hs4)=altC (ts.map codeT) (insL hs)):=lh (by
    rw[altC_eq ts i HTS.out,<-HE.out]
    simp only[<-HI4.out,insL_len])
   have HJN:=lh HJ.out.1;have hjc:=HJ.out.caps;clear hE3 hK3 hE5 hK5 hc4 ht4 hlo4 hhi4 HC HT HJ HX HL T5 hpk hltI hiI
   go_upto_region 11 with fail
   go_loopw [51] (fun v51 wr=>∃(k:Nat) (A1:Option Addr) (c1:Nat) (hs1:List Hin),v51=.int .i64 k/\k<=i/\Hid (CS wE base gc gq gw ga gr wr A1 c1 hs1)/\Hid (CT gc A w A1 wr)/\Hid (OwnJ wr w.heap.size J i jc js)/\Hid (hs1.length=hs4.length)/\Hid (setJs (js.drop k) (hs4.length:Int) (insL hs1)=altC (ts.map codeT) (insL hs))) (fun v _=>i-(intOf v).toNat)
   case atStart=>exact⟨0,A4,c4,hs4,rfl,om,HC5,HT5,HJ5,lh rfl,HFIN⟩
   case round=>
    clear HC5 HT5 HJ5;obtain⟨k,A1,c1,hs1,rfl,hk,HC,HT,HJ,HL1,HE1⟩:=hrel;by_cases hlt:k<i
    ·have hltI:(k:Int)<(i:Int):=om;obtain⟨jg,jo,j,rfl,cj,hj,hjk⟩:=HJ.out.get hlt;have HJK:=lh hjk;clear hjk;have hj1:j<hs1.length:=by have:=HX5.out j hj;have:=HL1.out;omega
     have hj1I:(j:Int)<(hs1.length:Int):=om;obtain⟨g,eA,hbase,hcell⟩:=own_c5 HC.out.o hj1;subst eA;obtain⟨v1,y1,f1⟩:=hcell 1 om;have hb1:hs1.length<=100000:=by have:=HL5.out;have:=HL1.out;omega
     have HPUT:=lh (HC.out.putX hE hj1 rfl (v:=(hs1.length:Int)) (by unfold I64;omega));have z0:wr.cell? ⟨gc,0,none⟩=some (.slice (some ⟨g,0,none⟩) hs1.length c1):=HC.out.b.cell 0;have hcap:=OwnS.caps HC.out.o;clear hcell hj
     go_upto_region 14 with fail
     have HC8:=lh HPUT.out.1;have HT8:=lh (HT.out.trans HPUT.out.2);have HJ8:=lh (HJ.out.ct HC.out.b HPUT.out.2);have HL8:Hid ((hs1.set j (hs1[j].putI 1 (hs1.length:Int))).length=hs4.length):=lh (by rw[List.length_set];exact HL1.out);have HE8:Hid (setJs (js.drop (k+1)) (hs4.length:Int) (insL (hs1.set j (hs1[j].putI 1 (hs1.length:Int))))=altC (ts.map codeT) (insL hs)):=lh (by
      rw[insL_putX,<-HE1.out,setJs_step HJK.out,HL1.out])
     generalize hs1.set j (hs1[j].putI 1 (hs1.length:Int))=hs8 at *;generalize wr.setCell ⟨g,j*5+1,none⟩ (.int .i64 (hs1.length:Int))=w8 at *;clear y1 f1 z0 HPUT HC HT HJ cj
     go_wp2_with fail
     go_roundw
     case rel=>exact⟨k+1,some ⟨g,0,none⟩,c1,hs8,by go_num,om,HC8,HT8,HJ8,HL8,HE8⟩
     case measure=>simp[intOf];omega
    ·have hle:¬(k:Int)<(i:Int):=om
     go_wp2_with fail
     exact bodyPost_end (v:=.tuple #[]) (by simp[results,Tryz.results163,go_sem]) rfl ⟨hs1,A1,c1,rfl,HC.out,HT.out,by have:=HL1.out;have:=HL5.out;omega,by have:=HL1.out;have:=HL5.out;omega,lh (by
      have h:=HE1.out;rw[List.drop_eq_nil_of_le (by have:=HJN.out;omega)] at h;exact h)⟩
theorem own_c5g {w:World}{base c i g:Nat}{hs:List Hin}(h:OwnS w base 129 5 (some ⟨g,0,none⟩) hs.length c (flatN hs))(hi:i<hs.length) :
 ∀k,k<5->∃v,w.cell? ⟨g,i*5+k,none⟩=some v/\w.frozen? ⟨g,i*5+k,none⟩=false:=by
 obtain⟨g',e,_,hc⟩:=own_c5 h hi;injection e with e;injection e with e _ _
 subst e;exact hc
theorem setQ5_kpp {p:Nat->Prop}{a w:World}{g:Nat}(h:KpP p a w)(hg:p g)(q:Nat)(op x y n:Int):KpP p a (setQ5 w g q op x y n):=
 (((((h.set (x:=⟨g,q,none⟩) (.inl hg) _).set (x:=⟨g,q+1,none⟩) (.inl hg) _).set (x:=⟨g,q+2,none⟩) (.inl hg) _).set (x:=⟨g,q+3,none⟩) (.inl hg) _).set (x:=⟨g,q+4,none⟩) (.inl hg) _)
theorem rep_len {B M bd p i a b c:Nat}{mv mx mn:Int}(hB:2<=B)(h3:B*3<=M)(hM:B*bd<=M)(hp:(p:Int)=mn)(hpb:p<=bd)(hmx : -1<=mx/\mx<=bd)(hmm:mx = -1->mn+1<=bd)(hi:i=mv.toNat)
 (h:(mv=1/\mx = -1)\/(mv=mx-mn/\mx≠-1)) (h1:b+2*p<=a+B*p) (h2:c+i<=b+B*i):(mx = -1->c+3<=a+M)/\(mx≠-1->c+2<=a+M):=by
 have hd:=Nat.mul_add B p i;have hpi:p+i<=bd:=by
  rcases h with⟨e1,e2⟩|⟨e1,e2⟩
  ·have:=hmm e2;omega
  ·omega
 have hle:=Nat.mul_le_mul_left B hpi;refine⟨fun e=>?_,fun e=>?_⟩
 ·have hi1:i=1:=om;subst hi1;by_cases h0:p=0
  ·subst h0;omega
  ·omega
 ·by_cases h0:2<=2*p+i
  ·omega
  ·have hp0:p=0:=om;subst hp0;have:i=0\/i=1:=om;rcases this with rfl|rfl<;>omega
theorem rep_len2 {B M bd p i j a b c:Nat}{mv mx mn:Int}(hM:B*bd<=M)(hp:(p:Int)=mn)(hpb:p<=bd)(hmx : -1<=mx/\mx<=bd)(hmm:mx = -1->mn+1<=bd)(hi:i=mv.toNat)(hj:j<i)
 (h:(mv=1/\mx = -1)\/(mv=mx-mn/\mx≠-1)) (h1:b+2*p<=a+B*p) (h2:c+j<=b+B*j):c+B<=a+M:=by
 have hd:=Nat.mul_add B p (j+1);have hs:=mul_step B j;have hpi:p+(j+1)<=bd:=by
  rcases h with⟨e1,e2⟩|⟨e1,e2⟩
  ·have:=hmm e2;omega
  ·omega
 have hle:=Nat.mul_le_mul_left B hpi;omega
theorem rep_len3 {B M bd p i j a b c:Nat}{mv mx mn:Int}(hB:2<=B)(h3:B*3<=M)(hM:B*bd<=M)(hp:(p:Int)=mn)(hpb:p<=bd)(hmx : -1<=mx/\mx<=bd)(hmm:mx = -1->mn+1<=bd)(hi:i=mv.toNat)(hj:j<i)
 (h:(mv=1/\mx = -1)\/(mv=mx-mn/\mx≠-1)) (h1:b+2*p<=a+B*p) (h2:c+j<=b+B*j):c+1+B<=a+M:=by
 have hd:=Nat.mul_add B p (j+1);have hs:=mul_step B j;have hpi:p+(j+1)<=bd:=by
  rcases h with⟨e1,e2⟩|⟨e1,e2⟩
  ·have:=hmm e2;omega
  ·omega
 have hle:=Nat.mul_le_mul_left B hpi;by_cases h0:1<=2*p+j
 ·omega
 ·have hp0:p=0:=om;have hj0:j=0:=om;subst hp0 hj0;omega
theorem slIndex_none (w:World)(A:Option Addr)(c:Nat)(xs:List Int)(x:Int)(h:IL w A c xs)(hx:x∉xs):Calls Tryz.prog 221 #[.slice A xs.length c,.int .i64 x] w (RetV (.int .i64 (-1)) w):=by
 have hl:=h.len;have H:=lh h;have HX:=lh hx;clear h hx;go_enter Tryz.func221,Tryz.ntmps221
 go_upto_region 2 with fail
 go_loopw [8] (fun v wr=>∃i:Nat,v=.int .i64 i/\i<=xs.length/\Ext w wr) (fun v _=>xs.length-(intOf v).toNat)
 case atStart=>exact⟨0,rfl,Nat.zero_le _,Ext.rfl' _⟩
 case round=>
  obtain⟨i,rfl,hi,x1⟩:=hrel;by_cases hlt:i<xs.length
  ·obtain⟨b,o,rfl,hc⟩:=(H.out.ext x1).get hlt;have hxy:¬x=xs[i]:=fun e=>HX.out (by rw[e];exact List.getElem_mem hlt);generalize xs[i]=y at *
   go_wp2_with fail
   go_roundw
   case rel=>exact⟨i+1,by go_num,om,x1⟩
   case measure=>simp[intOf];omega
  ·have hle:(xs.length:Int)<=i:=om
   go_wp2_with fail
   go_ret
   exact⟨rfl,x1⟩
theorem slContains_none (w:World)(A:Option Addr)(c:Nat)(xs:List Int)(x:Int)(h:IL w A c xs)(hx:x∉xs):Calls Tryz.prog 159 #[.slice A xs.length c,.int .i64 x] w (RetV (.bool false) w):=by
 have H:=lh (slIndex_none w A c xs x h hx);clear h hx;go_enter Tryz.func159,Tryz.ntmps159
 go_wp2_with (go_at_call 221;refine H.out.mono ?_;rintro e w1 ⟨rfl,x1⟩)
 go_ret
 exact⟨rfl,x1⟩
theorem nulG1 {P:Prop}(h:P:=by
 go_loopw [23] (fun v wr=>∃i:Nat,v=.int .i64 i/\i<=n.ks.length/\Hid (∀j (hj:j<T.kids.length),j<i->nul T.kids[j]=true)/\Hid (Ext w wr)) (fun v _=>n.ks.length-(intOf v).toNat)
 case atStart=>exact⟨0,rfl,Nat.zero_le _,lh (fun j _ h=>absurd h (Nat.not_lt_zero _)),lh (Ext.rfl' _)⟩
 case round=>
  obtain⟨i,rfl,hi,HJ,XR⟩:=hrel;by_cases hlt:i<n.ks.length
  ·have HNr:=lh (HN.out.ext XR.out);have hj:i<T.kids.length:=by have:=HLEN.out;omega
   obtain⟨kb,ko,eK,HKID⟩:=HNr.out.kid i hj;have cr:=HNr.out.pn.p.c8.2.2.1;rw[eK] at cr;have w0:wr.cell? ⟨gw,0,none⟩=some (.func (Fn.func 220) #[] #[.pointer (some ⟨gw,0,none⟩)]):=(Blk.ext HV.out XR.out).cell 0;have HK:=lh HKID;have VR:Hid (NuB wr gw):=lh (Blk.ext HV.out XR.out);have d0:=kc0 w0;have d1:=kc0 cr;clear w0 cr HKID eK
   go_upto_region 13 with fail
   refine Xr.start [] kr ?_;refine Xtk 0 ?_
   iterate 6(refine Xtn ?_)
   clear d0 d1;refine Xcl 7 fun w5 hE5 hK5 K hKK=>?_;go_simp;refine(IH w5 (Blk.ext VR.out hE5) kb (ko+i*8) T.kids[i] (HK.out.ext hE5) (HGD.out.at_.2 i hj)).mono ?_;obtain⟨z,hz⟩:∃z,z=nul T.kids[i]:=⟨_,rfl⟩
   rw[<-hz];have HZ:=lh hz.symm;clear hz;rintro e w6 ⟨rfl,x6⟩;refine hKK _ _ x6 ?_;clear hKK;refine ptm ?_;refine Xtk 8 ?_;refine Xdn fun w7 hE7 hK7=>?_;have X7:=lh (XR.out.trans hK7.nil);clear hE5 hK5 x6 hE7 hK7
   cases z with
   | true=>
    go_wp2_with fail
    go_roundw
    case rel=>exact⟨i+1,by go_num,om,lh (fun j hj h=>by
     by_cases hji:j<i
     ·exact HJ.out j hj hji
     ·obtain rfl:j=i:=om;exact HZ.out),X7⟩
    case measure=>simp[intOf];omega
   | false=>
    go_wp2_with fail
    go_ret
    exact⟨by rw[HT2.out i hj HZ.out];rfl,X7.out⟩
  ·have hle:(n.ks.length:Int)<=i:=om
   go_wp2_with fail
   go_ret
   exact⟨by rw[HF2.out (fun j hj=>HJ.out j hj (by have:=HLEN.out;omega))];rfl,XR.out⟩):P:=h
theorem nulG2 {P:Prop}(h:P:=by
 go_loopw [53] (fun v wr=>∃i:Nat,v=.int .i64 i/\i<=n.ks.length/\Hid (∀j (hj:j<T.kids.length),j<i->nul T.kids[j]=false)/\Hid (Ext w wr)) (fun v _=>n.ks.length-(intOf v).toNat)
 case atStart=>exact⟨0,rfl,Nat.zero_le _,lh (fun j _ h=>absurd h (Nat.not_lt_zero _)),lh (Ext.rfl' _)⟩
 case round=>
  obtain⟨i,rfl,hi,HJ,XR⟩:=hrel;by_cases hlt:i<n.ks.length
  ·have HNr:=lh (HN.out.ext XR.out);have hj:i<T.kids.length:=by have:=HLEN.out;omega
   obtain⟨kb,ko,eK,HKID⟩:=HNr.out.kid i hj;have cr:=HNr.out.pn.p.c8.2.2.1;rw[eK] at cr;have w0:wr.cell? ⟨gw,0,none⟩=some (.func (Fn.func 220) #[] #[.pointer (some ⟨gw,0,none⟩)]):=(Blk.ext HV.out XR.out).cell 0;have HK:=lh HKID;have VR:Hid (NuB wr gw):=lh (Blk.ext HV.out XR.out);have d0:=kc0 w0;have d1:=kc0 cr;clear w0 cr HKID eK
   go_upto_region 27 with fail
   refine Xr.start [] kr ?_;refine Xtk 0 ?_
   iterate 6(refine Xtn ?_)
   clear d0 d1;refine Xcl 7 fun w5 hE5 hK5 K hKK=>?_;go_simp;refine(IH w5 (Blk.ext VR.out hE5) kb (ko+i*8) T.kids[i] (HK.out.ext hE5) (HGD.out.at_.2 i hj)).mono ?_;obtain⟨z,hz⟩:∃z,z=nul T.kids[i]:=⟨_,rfl⟩
   rw[<-hz];have HZ:=lh hz.symm;clear hz;rintro e w6 ⟨rfl,x6⟩;refine hKK _ _ x6 ?_;clear hKK;refine ptm ?_;refine Xdn fun w7 hE7 hK7=>?_;have X7:=lh (XR.out.trans hK7.nil);clear hE5 hK5 x6 hE7 hK7
   cases z with
   | true=>
    go_wp2_with fail
    go_ret
    exact⟨by rw[HT2.out i hj HZ.out];rfl,X7.out⟩
   | false=>
    go_wp2_with fail
    go_roundw
    case rel=>exact⟨i+1,by go_num,om,lh (fun j hj h=>by
     by_cases hji:j<i
     ·exact HJ.out j hj hji
     ·obtain rfl:j=i:=om;exact HZ.out),X7⟩
    case measure=>simp[intOf];omega
  ·have hle:(n.ks.length:Int)<=i:=om
   go_wp2_with fail
   go_ret
   exact⟨by rw[HF2.out (fun j hj=>HJ.out j hj (by have:=HLEN.out;omega))];rfl,XR.out⟩):P:=h
theorem null1_stepG (u C:Int)(d:Nat)(gw:Nat)
 (IH:∀(w:World) (_:NuB w gw) (b o:Nat) (T:Tm) (_:PgAt w b o d T) (_:GdT u C T),Calls Tryz.prog 220 #[.pointer (some ⟨b,o,none⟩),.pointer (some ⟨gw,0,none⟩)] w (RetV (.bool (nul T)) w))
 (w:World) (hv:NuB w gw) (b o:Nat) (T:Tm) (hp:PgAt w b o (d+1) T) (hg:GdT u C T):Calls Tryz.prog 220 #[.pointer (some ⟨b,o,none⟩),.pointer (some ⟨gw,0,none⟩)] w (RetV (.bool (nul T)) w):=by
 obtain⟨n,hn⟩:=hp.node;have HN:=lh hn;have HV:=lh hv;have HGD:=lh hg;have HLEN:=lh hn.len;have hcap:n.ks.length<=n.kc/\n.kc<=9223372036854775807:=⟨hn.pn.le,by have:=hn.pn.cap;unfold maxLen at this;omega⟩;have hfew:n.ks.length<=3:=hn.pn.ok.few;have hop:=hn.pn.ok.op;have HHD:Hid (T.hd.op=n.op/\T.hd.mn=n.mn):=lh (by rw[hn.hd];exact⟨rfl,rfl⟩);have HNUM:=lh hg.at_.1.num;obtain⟨c0,_,c2,c3,_⟩:=hn.pn.p.c8;clear hn hp hv hg;generalize n.op=op at *;go_enter Tryz.func220,Tryz.ntmps220;rcases hop with rfl|rfl|rfl|rfl|rfl|rfl|rfl
 ·go_wp2
  go_ret
  exact⟨by rw[nul_x (.inl HHD.out.1)];rfl,Ext.rfl' _⟩
 ·go_wp2
  go_ret
  exact⟨by rw[nul_1 HHD.out.1];rfl,Ext.rfl' _⟩
 ·have HT2:Hid (∀i (hi:i<T.kids.length),nul T.kids[i]=false->nul T=false):=lh (fun i hi h=>nul_2f HHD.out.1 hi h);have HF2:Hid ((∀i (hi:i<T.kids.length),nul T.kids[i]=true)->nul T=true):=lh (fun h=>nul_2t HHD.out.1 h)
  go_upto_region 11 with fail
  clear c2 c0 c3;exact nulG1
 ·have HT2:Hid (∀i (hi:i<T.kids.length),nul T.kids[i]=true->nul T=true):=lh (fun i hi h=>nul_3t HHD.out.1 hi h);have HF2:Hid ((∀i (hi:i<T.kids.length),nul T.kids[i]=false)->nul T=false):=lh (fun h=>nul_3f HHD.out.1 h)
  go_upto_region 25 with fail
  clear c2 c0 c3;exact nulG2
 ·by_cases h0:n.mn=0
  ·go_wp2
   go_ret
   exact⟨by rw[nul_4 HHD.out.1,HHD.out.2,h0];rfl,Ext.rfl' _⟩
  ·have h0b:(n.mn == 0)=false:=by simpa using h0
   have hk1:T.kids.length=1:=by
    rcases HNUM.out with h|h|⟨h|h,_⟩|⟨_,_,_,_,_,t,ht,_⟩|h|h
    ·have:=h.1;have:=HHD.out.1;omega
    ·have:=h.1;have:=HHD.out.1;omega
    ·have:=HHD.out.1;omega
    ·have:=HHD.out.1;omega
    ·rw[ht];rfl
    ·have:=h.1;have:=HHD.out.1;omega
    ·have:=h.1;have:=HHD.out.1;omega
   have e4:nul T=nul (T.kids[0]'om):=by
    rw[nul_4 HHD.out.1,HHD.out.2];have h1:¬n.mn<=0:=by
     have:=HN.out.pn.ok.mn;omega
    obtain⟨t,ht⟩:=List.length_eq_one_iff.1 hk1;simp[h1,ht]
   have HT2:Hid (∀i (hi:i<T.kids.length),nul T.kids[i]=true->nul T=true):=lh (fun i hi h=>by
    obtain rfl:i=0:=om;rw[e4];exact h)
   have HF2:Hid ((∀i (hi:i<T.kids.length),nul T.kids[i]=false)->nul T=false):=lh (fun h=>by rw[e4];exact h 0 om);clear hk1 e4
   go_upto_region 25 with fail
   clear c2 c0 c3 h0 h0b;exact nulG2
 ·have hk1:T.kids.length=1:=by
   rcases HNUM.out with h|h|⟨h|h,_⟩|⟨h,_⟩|h|h
   ·have:=h.1;have:=HHD.out.1;omega
   ·have:=h.1;have:=HHD.out.1;omega
   ·have:=HHD.out.1;omega
   ·have:=HHD.out.1;omega
   ·have:=HHD.out.1;omega
   ·exact h.2.2.2.2.2.2.2.2
   ·have:=h.1;have:=HHD.out.1;omega
  have e4:nul T=nul (T.kids[0]'om):=by
   rw[nul_5 HHD.out.1];obtain⟨t,ht⟩:=List.length_eq_one_iff.1 hk1;simp[ht]
  have HT2:Hid (∀i (hi:i<T.kids.length),nul T.kids[i]=true->nul T=true):=lh (fun i hi h=>by
   obtain rfl:i=0:=om;rw[e4];exact h)
  have HF2:Hid ((∀i (hi:i<T.kids.length),nul T.kids[i]=false)->nul T=false):=lh (fun h=>by rw[e4];exact h 0 om);clear hk1 e4
  go_upto_region 25 with fail
  clear c2 c0 c3;exact nulG2
 ·go_wp2
  go_ret
  exact⟨by rw[nul_x (.inr HHD.out.1)];rfl,Ext.rfl' _⟩
theorem null1_G (u C:Int)(gw:Nat):∀(d:Nat) (w:World) (_:NuB w gw) (b o:Nat) (T:Tm) (_:PgAt w b o d T) (_:GdT u C T),Calls Tryz.prog 220 #[.pointer (some ⟨b,o,none⟩),.pointer (some ⟨gw,0,none⟩)] w (RetV (.bool (nul T)) w)
 | 0,w,_,b,o,T,hp,_=>by obtain⟨e,he⟩:=hp.pos;omega
 | d+1,w,hv,b,o,T,hp,hg=>null1_stepG u C d gw (null1_G u C gw d) w hv b o T hp hg
theorem null_G (u C:Int)(d:Nat)(w:World)(n:Nd)(T:Tm)(hp:TreeG 3 (fun _=>True) w d n.val T)(hg:GdT u C T):Calls Tryz.prog 158 #[n.val] w (RetV (.bool (nul T)) w):=by
 have X0:=Ext.alloc w (.cells n.cs.toArray 61);have B0:=Blk.new w 61 n.cs.toArray;have HP:Hid (PgAt (w.alloc (.cells n.cs.toArray 61)) w.heap.size 0 d T):=lh ⟨n,fun i hi=>by rw[Nat.zero_add,B0.cell i];simpa using List.getElem?_eq_getElem hi,hp.ext X0⟩;have HX0:=lh X0;clear B0 X0;unfold Nd.cs at HP HX0;unfold Nd.val;go_enter Tryz.func158,Tryz.ntmps158
 go_upto_region 1 with fail
 obtain⟨gb,hgb⟩:∃g,g=w.heap.size:=⟨_,rfl⟩
 rw[<-hgb] at HP ⊢;clear hgb;generalize w.alloc (.cells #[.int .i64 n.op,.slice n.A n.l.length n.c,.slice n.K n.ks.length n.kc,.int .i64 n.mn,.int .i64 n.mx,.int .i64 n.md,.int .i64 n.n,.bool n.neg] 61)=w1 at *;have X1:=Ext.alloc w1 (.cells #[.nilFunc] 347);have B1:=Blk.new w1 347 #[.nilFunc];obtain⟨gw,hgw⟩:∃g,g=w1.heap.size:=⟨_,rfl⟩
 rw[<-hgw] at B1;have HGW:=lh hgw;clear hgw
 go_upto_region 2 with fail
 rw[<-HGW.out];generalize w1.alloc (.cells #[.nilFunc] 347)=w2 at *;have hlow:w1.heap.size<=gw:=by have:=HGW.out;omega
 have z0:w2.cell? ⟨gw,0,none⟩=some .nilFunc:=B1.cell 0;have z1:=B1.frz 0;have HV:Hid (NuB (w2.setCell ⟨gw,0,none⟩ (.func (Fn.func 220) #[] #[.pointer (some ⟨gw,0,none⟩)])) gw):=lh (by have h:=Blk.set B1 0 (.func (Fn.func 220) #[] #[.pointer (some ⟨gw,0,none⟩)]);exact h);have X2:=lh (X1.setNew (p:=⟨gw,0,none⟩) hlow (.func (Fn.func 220) #[] #[.pointer (some ⟨gw,0,none⟩)]));have hst:(store ⟨gw,0,none⟩ (.func (Fn.func 220) #[] #[.pointer (some ⟨gw,0,none⟩)])).run Tryz.prog w2=.ok () (w2.setCell ⟨gw,0,none⟩ (.func (Fn.func 220) #[] #[.pointer (some ⟨gw,0,none⟩)])):=by
  rw[run_store Tryz.prog w2 _ _ _ rfl,z0];simp[z1]
 go_upto_region 3 with fail
 generalize w2.setCell ⟨gw,0,none⟩ (.func (Fn.func 220) #[] #[.pointer (some ⟨gw,0,none⟩)])=w3 at *;clear z0 z1 hst B1 X1;have w0:w3.cell? ⟨gw,0,none⟩=some (.func (Fn.func 220) #[] #[.pointer (some ⟨gw,0,none⟩)]):=Blk.cell HV.out 0;have H:=lh (null1_G u C gw d w3 HV.out gb 0 T (HP.out.ext X2.out) hg);obtain⟨z,hz⟩:∃z,z=nul T:=⟨_,rfl⟩
 rw[<-hz] at H;have HZ:=lh hz;clear hz
 go_wp2_with (go_at_call 220;refine H.out.mono ?_;rintro e w4 ⟨rfl,x4⟩)
 go_ret
 exact⟨by rw[<-HZ.out];rfl,HX0.out.trans (X2.out.trans x4)⟩
theorem comp_kids {T:Tm}{xs:List Int}(h:T.hd.op≠5)(hc:comp T xs=true):∀i (hi:i<T.kids.length),comp T.kids[i] xs=true:=fun i hi=>by
 rw[comp_n h,List.all_eq_true] at hc;exact hc _ (List.getElem_mem hi)
theorem comp_out {T:Tm}{xs:List Int}(h:T.hd.op=5)(hc:comp T xs=true):T.hd.n∉xs:=fun hn=>by rw[comp_5x h hn] at hc;cases hc
theorem comp_kids5 {T:Tm}{xs:List Int}(h:T.hd.op=5)(hc:comp T xs=true):∀i (hi:i<T.kids.length),comp T.kids[i] (xs++[T.hd.n])=true:=fun i hi=>by
 rw[comp_5 h (comp_out h hc),List.all_eq_true] at hc;exact hc _ (List.getElem_mem hi)
def RetCt (wB w:World)(A:Option Addr)(c:Nat)(xs:List Int)(e:Ending)(w':World):Prop:=
 e=.returned (.bool true)/\Ext wB w'/\KpP (fun b=>A.map (·.block)=some b) w w'/\OwnI w' wB.heap.size 3 A c xs
theorem cmpGA {P:Prop}(h:P:=by
 go_loopw [52] (fun v wr=>∃i:Nat,v=.int .i64 i/\i<=n.ks.length/\Hid (Ext wB wr)/\Hid (KpP (fun b=>A.map (·.block)=some b) w wr)/\Hid (OwnI wr wB.heap.size 3 A c xs)) (fun v _=>n.ks.length-(intOf v).toNat)
 case atStart=>exact⟨0,rfl,Nat.zero_le _,X0,K0,OA0⟩
 case round=>
  clear X0 K0 OA0;obtain⟨i,rfl,hi,XR,KR,OA⟩:=hrel;by_cases hlt:i<n.ks.length
  ·have hj:i<T.kids.length:=by have:=HLEN.out;omega
   obtain⟨kb,ko,eK,HKID⟩:=HN.out.kid i hj;have cr:=(HN.out.ext XR.out).pn.p.c8.2.2.1;rw[eK] at cr;clear eK;have HI:=lh (IH wr XR.out kb (ko+i*8) T.kids[i] HKID (HGD.out.at_.2 i hj) A c xs OA.out (HCK.out i hj) om hxs);clear HKID
   go_wp2_with (go_at_call 79;refine HI.out.mono ?_;rintro e w6 ⟨rfl,x6,k6,o6⟩;have KK:=And.intro (KR.out.trans k6) o6;have X6:=lh x6;have K6:=lh KK.1;have A6:=lh KK.2;clear x6 k6 o6 KK)
   ·go_roundw
    case rel=>exact⟨i+1,by go_num,om,X6,K6,A6⟩
    case measure=>simp[intOf];omega
  ·have hle:(n.ks.length:Int)<=i:=om
   go_wp2_with fail
   go_ret
   exact⟨rfl,XR.out,KR.out,OA.out⟩):P:=h
theorem cmpGB {P:Prop}(h:P:=by
 go_loopw [52] (fun v wr=>∃i:Nat,v=.int .i64 i/\i<=n.ks.length/\Hid (Ext wB wr)/\Hid (KpP (fun b=>A.map (·.block)=some b) w wr)/\Hid (OwnI wr wB.heap.size 3 A c xs)/\Hid (OwnI wr wB.heap.size 3 B d (xs++[nn]))) (fun v _=>n.ks.length-(intOf v).toNat)
 case atStart=>exact⟨0,rfl,Nat.zero_le _,X0,K0,OA0,OB0⟩
 case round=>
  clear X0 K0 OA0 OB0;obtain⟨i,rfl,hi,XR,KR,OA,OB⟩:=hrel;by_cases hlt:i<n.ks.length
  ·have hj:i<T.kids.length:=by have:=HLEN.out;omega
   obtain⟨kb,ko,eK,HKID⟩:=HN.out.kid i hj;have cr:=(HN.out.ext XR.out).pn.p.c8.2.2.1;rw[eK] at cr;clear eK;have HI:=lh (IH wr XR.out kb (ko+i*8) T.kids[i] HKID (HGD.out.at_.2 i hj) B d (xs++[nn]) OB.out (HCK.out i hj) (by rw[List.length_append];simp only[List.length_cons,List.length_nil];omega) hys);rw[show(xs++[nn]).length=xs.length+1 by simp] at HI;clear HKID
   go_wp2_with (go_at_call 79;refine HI.out.mono ?_;rintro e w6 ⟨rfl,x6,k6,o6⟩;have KK:=cmpKeep KR.out k6 OA.out o6 hBA.out hAl.out;have X6:=lh x6;have K6:=lh KK.1;have A6:=lh KK.2;have O6:=lh o6;clear x6 k6 o6 KK)
   ·go_roundw
    case rel=>exact⟨i+1,by go_num,om,X6,K6,A6,O6⟩
    case measure=>simp[intOf];omega
  ·have hle:(n.ks.length:Int)<=i:=om
   go_wp2_with fail
   go_ret
   exact⟨rfl,XR.out,KR.out,OA.out⟩):P:=h
theorem I3z1 {P:Prop} (h:P:=by
 have HCK:=lh (comp_kids (by rw[HHD.out.1];decide) HCM.out)
 go_upto_region 16 with fail
 clear c0 c2 c3 c5 c6;exact cmpGA):P:=h
theorem comp_stepG (u C:Int)(wB:World)(d0:Nat)(hd0:d0<=1000)
 (IH:∀(w:World) (_:Ext wB w) (b o:Nat) (T:Tm) (_:PgAt wB b o d0 T) (_:GdT u C T) (A:Option Addr) (c:Nat) (xs:List Int) (_:OwnI w wB.heap.size 3 A c xs) (_:comp T xs=true) (_:xs.length+d0<=2000) (_:∀x∈xs,I64 x),Calls Tryz.prog 79 #[.pointer (some ⟨b,o,none⟩),.slice A xs.length c] w (RetCt wB w A c xs))
 (w:World) (x0:Ext wB w) (b o:Nat) (T:Tm) (hp:PgAt wB b o (d0+1) T) (hg:GdT u C T) (A:Option Addr) (c:Nat) (xs:List Int) (ho:OwnI w wB.heap.size 3 A c xs) (hcm:comp T xs=true) (hxl:xs.length+(d0+1)<=2000) (hxs:∀x∈xs,I64 x) :
 Calls Tryz.prog 79 #[.pointer (some ⟨b,o,none⟩),.slice A xs.length c] w (RetCt wB w A c xs):=by
 obtain⟨n,hn⟩:=hp.node;have HN:=lh hn;have HGD:=lh hg;have HLEN:=lh hn.len;have HNUM:=lh hg.at_.1.num;have HHD:Hid (T.hd.op=n.op/\T.hd.n=n.n):=lh (by rw[hn.hd];exact⟨rfl,rfl⟩);have HCM:=lh hcm;have hcap:n.ks.length<=n.kc/\n.kc<=9223372036854775807:=⟨hn.pn.le,by have:=hn.pn.cap;unfold maxLen at this;omega⟩;have hfew:n.ks.length<=3:=hn.pn.ok.few;have hop:=hn.pn.ok.op;have hnn:=hn.pn.ok.n;have hone:=hn.pn.ok.one;have hmd:=hn.pn.ok.md;obtain⟨c0,_,c2,c3,_,c5,c6,_⟩:=(hn.pn.ext x0).p.c8;have X0:=lh x0;have OA0:=lh ho;have K0:=lh (KpP.refl (fun b=>A.map (·.block)=some b) w);have hys:=hxs;have hcapI:=OwnS.caps ho;have hxl2:xs.length<=c/\c<=9223372036854775807:=hcapI;clear hn hp x0 ho hcapI hg hcm;generalize n.op=op at *;obtain⟨iz0,hi0,hz0,hz1,hz2⟩:=info_parts infoInt;have HAL:=lh (fun(b:Nat) (hb:A.map (·.block)=some b)=>(OwnS.blt OA0.out hb).1);go_enter Tryz.func79,Tryz.ntmps79;rcases hop with rfl|rfl|rfl|rfl|rfl|rfl|rfl
 ·exact I3z1
 ·exact I3z1
 ·exact I3z1
 ·exact I3z1
 ·have h1k:0<n.ks.length:=by have:=hone (.inl rfl);omega
  have hj:0<T.kids.length:=by have:=HLEN.out;omega
  obtain⟨kb,ko,eK,nk,hnk,htk⟩:=HN.out.kid 0 hj;rw[Nat.zero_mul,Nat.add_zero] at hnk;obtain⟨k0,k1,k2,k3,k4,k5,k6,k7⟩:=(hnk.ext X0.out).c8;have hn0:nul (T.kids[0]'hj)=false:=by
   rcases HNUM.out with h|h|⟨h|h,_⟩|⟨_,_,_,_,_,t,ht,ht2⟩|h|h
   ·have:=h.1;have:=HHD.out.1;omega
   ·have:=h.1;have:=HHD.out.1;omega
   ·have:=HHD.out.1;omega
   ·have:=HHD.out.1;omega
   ·simp only[ht,List.getElem_cons_zero];exact ht2
   ·have:=h.1;have:=HHD.out.1;omega
   ·have:=h.1;have:=HHD.out.1;omega
  have HNU:=lh (null_G u C d0 w nk _ (htk.ext X0.out) (HGD.out.at_.2 0 hj));rw[hn0] at HNU;unfold Nd.val at HNU;have h1I:(0:Int)<(n.ks.length:Int):=om;have hmd2:(n.md == 2)=false:=by simp;omega
  have c2':=c2;rw[eK] at c2;have HCK:=lh (comp_kids (by rw[HHD.out.1];decide) HCM.out);clear hnk htk hn0;have HC2:=lh c2
  go_wp2_with (go_at_call 158;refine HNU.out.mono ?_;rintro e w2 ⟨rfl,x2⟩;have X2:=lh (X0.out.trans x2);have K2:=lh (KpP.thenExt K0.out x2);have A2:=lh (OwnS.ext OA0.out x2);have c2w:=x2.cell HC2.out;clear x2)
  clear X0 K0 OA0 c0 c2 c2' c3 c5 c6 k0 k1 k2 k3 k4 k5 k6 k7 HNU hmd2 HC2 c2w eK;have X0:=X2;have K0:=K2;have OA0:Hid (OwnI w2 wB.heap.size 3 A c xs):=A2;clear X2 K2 A2;exact cmpGA
 ·have hnx:n.n∉xs:=by
   have h:=comp_out HHD.out.1 HCM.out
   rwa [HHD.out.2] at h
  have HCN:=lh (slContains_none w A c xs n.n (IL.of_own OA0.out hxs) hnx);have HCK:Hid (∀i (hi:i<T.kids.length),comp T.kids[i] (xs++[n.n])=true):=lh (by
   have h:=comp_kids5 HHD.out.1 HCM.out
   rwa [HHD.out.2] at h)
  clear hnx;have nI:I64 n.n:=by unfold I64;omega
  have hys:∀x∈xs++[n.n],I64 x:=fun x hx=>by
   rcases List.mem_append.1 hx with hx|hx
   ·exact hxs x hx
   ·rw[List.mem_singleton.1 hx];exact nI
  generalize n.n=nn at *;have C2:=fun(w':World) (x:Ext w w')=>lh (And.intro (x.cell c2) (x.cell c6))
  go_upto_region 14 with(go_at_call 159;refine HCN.out.mono ?_;rintro e w2 ⟨rfl,x2⟩;have XX:=lh x2;have X2:=lh (X0.out.trans x2);have K2:=lh (KpP.thenExt K0.out x2);have A2:=lh (OwnS.ext OA0.out x2);clear x2)
  ·have c6w:=(C2 w2 XX.out).out.2;have XA:=lh (Ext.alloc w2 (.cells #[.int .i64 nn] 3));have A3:=lh (OwnS.ext A2.out XA.out);have hbz:wB.heap.size<=(w2.alloc (.cells #[.int .i64 nn] 3)).heap.size:=(X2.out.trans XA.out).size
   go_upto_region 15 with(at_builtin;refine wpList_appKeep _ rfl _ _ _ rfl wB.heap.size 3 iz0 (.int .i64 0) Tryz.underlying22 hi0 hz0 hz1 hz2 rfl A xs.length c (xs.map (Value.int .i64)) rfl A3.out ⟨w2.heap.size,0,none⟩ 1 (.int .i64 nn) rfl (cell_one_new _ _ _) rfl om hbz ?_;intro B d w3 hoB hgr hoA hat;have OB0:Hid (OwnI w3 wB.heap.size 3 B d (xs++[nn])):=lh (by unfold OwnI;rw[List.map_append,List.length_append];exact hoB);have OA1:Hid (OwnI w3 wB.heap.size 3 A c xs):=lh hoA;have X3:=lh ((X2.out.trans XA.out).grown hgr (fun k e=>OwnS.row A3.out k e));have K3:=lh ((KpP.thenExt K2.out XA.out).trans (grownK hgr));have HAT:=lh hat;clear hoB hgr hoA hat)
   have hBA:Hid ((B=A/\d=c)\/∀b,B.map (·.block)=some b->w.heap.size<=b):=lh (by
    rcases HAT.out with h|h
    ·exact .inl h
    ·refine .inr (fun b hb=>?_);rw[h] at hb;injection hb with hb
     have h1:=K2.out.size;have h2:=XA.out.size;omega)
   have hdl:=OwnS.caps OB0.out;have hdl2:xs.length+1<=d/\d<=9223372036854775807:=by rw[List.length_append] at hdl;simpa using hdl
   have c2w:=(HN.out.ext X3.out).pn.p.c8.2.2.1;have hAl:=HAL;clear X0 K0 OA0 c0 c2 c3 c5 c6 c6w C2 HCN XX A2 A3 XA X2 K2 HAT hdl hbz
   go_upto_region 16 with fail
   clear c2w;have X0:=X3;have K0:=K3;have OA0:=OA1;clear X3 K3 OA1;exact cmpGB
 ·exact I3z1
theorem comp_G (u C:Int)(wB:World):∀(d0:Nat) (_:d0<=1000) (w:World) (_:Ext wB w) (b o:Nat) (T:Tm) (_:PgAt wB b o d0 T) (_:GdT u C T) (A:Option Addr) (c:Nat) (xs:List Int) (_:OwnI w wB.heap.size 3 A c xs) (_:comp T xs=true) (_:xs.length+d0<=2000) (_:∀x∈xs,I64 x),Calls Tryz.prog 79 #[.pointer (some ⟨b,o,none⟩),.slice A xs.length c] w (RetCt wB w A c xs)
 | 0,_,w,_,b,o,T,hp,_,A,c,xs,_,_,_,_=>by obtain⟨e,he⟩:=hp.pos;omega
 | d0+1,h,w,x0,b,o,T,hp,hg,A,c,xs,ho,hcm,hl,hx=>comp_stepG u C wB d0 om (comp_G u C wB d0 om) w x0 b o T hp hg A c xs ho hcm hl hx
end
end Go.Proofs.YtmgpefenkilffaaGreat
