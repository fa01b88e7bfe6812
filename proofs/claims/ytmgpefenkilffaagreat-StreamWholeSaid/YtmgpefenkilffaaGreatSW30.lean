/- Texts of this proof: I6. -/
import Derived.Test.YtmgpefenkilffaaGreatSW27
set_option linter.all false
set_option maxRecDepth 100000
set_option maxHeartbeats 16000000
namespace Go.Proofs.YtmgpefenkilffaaGreat
section
open Go.RowKit
attribute [local go_sem ↓] Go.wp_at_zero Go.wp_at_succ
theorem repGM {P:Prop}(h:P:=by
 go_loopw [67] (fun v67 wr=>∃(k:Nat) (A1:Option Addr) (c1:Nat) (hs1:List Hin),v67=.int .i64 k/\k<=N2/\Hid (CS wE base gc gq gw ga gr wr A1 c1 hs1)/\Hid (CT gc A w A1 wr)/\Hid (OwnJ wr w.heap.size J N2 jc js)/\Hid (hs1.length=hs6.length)/\Hid (setSs md hs6.length (js.drop k) (insL hs1)=F (insL hs))) (fun v _=>N2-(intOf v).toNat)
 case atStart=>exact⟨0,A6,c6,hs6,rfl,om,HC6,HT6,HJ6,lh rfl,HFN⟩
 case round=>
  clear HC6 HT6 HJ6;obtain⟨k,A1,c1,hs1,rfl,hk,HC,HT,HJ,HL1,HE1⟩:=hrel;by_cases hlt:k<N2
  ·have hltI:(k:Int)<(N2:Int):=om;obtain⟨jg,jo,j,rfl,cj,hj,hjk⟩:=HJ.out.get hlt;have HJK:=lh hjk;clear hjk;have hj1:j<hs1.length:=by have:=HX6.out j hj;have:=HL1.out;omega
   have hj1I:(j:Int)<(hs1.length:Int):=om;obtain⟨g,eA,hbase,hcell⟩:=own_c5 HC.out.o hj1;subst eA;clear hcell;have hb1:hs1.length<=100000:=by have:=HL6.out;have:=HL1.out;omega
   have z0:wr.cell? ⟨gc,0,none⟩=some (.slice (some ⟨g,0,none⟩) hs1.length c1):=HC.out.b.cell 0;have z5:=HC.out.x.cell C5.out;have hgc:gc∉[g]:=by
    intro e;rw[List.mem_singleton] at e;exact own_blk HC.out.o HC.out.b de (by rw[e];rfl)
   have hgb:b∉[g]:=by
    intro e;rw[List.mem_singleton] at e;omega
   have hcap:=OwnS.caps HC.out.o;have hwi:IntKind.i64.wrap ((j:Int)+1)=(j:Int)+1:=wj;have hwj:IntKind.i64.wrap (j:Int)=(j:Int):=wj;clear hj
   go_upto_region 18 with fail
   have d0:=fun(w':World) (h:Kp [g] wr w')=>h.cell z0 hgc;have d1:=fun(w':World) (h:Kp [g] wr w')=>h.cell z5 hgb;refine Xr.start [g] kr ?_;refine Xtk 0 ?_
   iterate 9(refine Xtn ?_)
   refine Xcl 10 fun w3 hE3 hK3 Kk hKK=>?_;go_simp;refine(hsplit_G w3 ((j:Int)+1) (hs1.length:Int) md (by unfold I64;omega) (by unfold I64;omega)).mono ?_;rintro e w4 ⟨x,y,rfl,hx,hy,x4,hxy⟩;have HXY:=lh hxy;clear hxy;refine hKK _ _ x4 ?_;clear hKK d0 d1;refine ptm ?_;refine Xtk 11 ?_;refine Xsp 12 fun w5 hE5 hK5 Kk hKK=>?_;have HX5:=lh ((hE3.trans x4).trans hE5);have HK5:=lh hK5;have HC5:=lh (HC.out.ext HX5.out);have hcell:=own_c5g HC5.out.o hj1;obtain⟨v0,y0,f0⟩:=hcell 0 om;obtain⟨v1,y1,f1⟩:=hcell 1 om;obtain⟨v2,y2,f2⟩:=hcell 2 om;obtain⟨v3,y3,f3⟩:=hcell 3 om;obtain⟨v4,y4,f4⟩:=hcell 4 om;simp only[Nat.add_zero] at y0 f0;clear hcell;have HPUT:=lh (HC5.out.put5 hE hj1 rfl (op:=2) (x:=x) (y:=y) (n:=0) (by unfold I64 at *;omega));clear hwi hwj hgc hgb z0 z5 hcap hE3 hK3 x4 hx hy hE5 hK5 cj hj1I hltI hj1;go_simp;have hkS:=setQ5_kpp (p:=(·=g)) (KpP.refl _ w5) rfl (j*5) 2 x y 0;refine hKK _ _ (KpP.mono hkS (fun b hb=>.inl (by simpa using hb))) (HK5.out.kpP hkS (fun b hb=>by simpa using hb)) ?_;clear hKK;have HC8:=lh HPUT.out.1;have HT8:=lh ((HT.out.trans (CT.of_ext gc _ HX5.out)).trans HPUT.out.2);have HJ8:=lh ((HJ.out.ext HX5.out).ct HC5.out.b HPUT.out.2);have HL8:Hid ((hs1.set j ⟨2,x,y,0,none,0,[]⟩).length=hs6.length):=lh (by rw[List.length_set];exact HL1.out);change Xr _ _ _ _ _ _ _ _ _ _ _ (setQ5 w5 g (j*5) 2 x y 0);have HE8:Hid (setSs md hs6.length (js.drop (k+1)) (insL (hs1.set j ⟨2,x,y,0,none,0,[]⟩))=F (insL hs)):=lh (by
    rw[<-HE1.out,setSs_step HJK.out,insL_set]
    congr 2
    unfold split1;rcases HXY.out with⟨h1,h2,h3⟩|⟨h1,h2,h3⟩
    ·rw[if_pos h1,h2,h3,HL1.out];rfl
    ·rw[if_neg h1,h2,h3,HL1.out];rfl)
   generalize hs1.set j ⟨2,x,y,0,none,0,[]⟩=hs8 at *;generalize setQ5 w5 g (j*5) 2 x y 0=w8 at *;clear y0 y1 y2 y3 y4 f0 f1 f2 f3 f4 HPUT HC HT HJ hkS HC5;refine ptm ?_;refine Xdn fun w9 hE9 hK9=>?_;have HC9:=lh (HC8.out.ext hE9);have HT9:=lh (HT8.out.trans (CT.of_ext gc _ hE9));have HJ9:=lh (HJ8.out.ext hE9);clear HC8 HT8 HJ8 hE9 hK9 HX5 HK5
   go_wp2_with fail
   go_roundw
   case rel=>exact⟨k+1,some ⟨g,0,none⟩,c1,hs8,by go_num,om,HC9,HT9,HJ9,HL8,HE8⟩
   case measure=>simp[intOf];omega
  ·have hle:¬(k:Int)<(N2:Int):=om
   go_wp2_with fail
   exact bodyPost_end (v:=.tuple #[]) (by simp[results,Tryz.results161,go_sem]) rfl ⟨hs1,A1,c1,rfl,HC.out,HT.out,by have:=HL1.out;have:=HL6.out;omega,by have:=HL1.out;have:=HL6.out;omega,lh (by
    have h:=HE1.out;rw[List.drop_eq_nil_of_le (by have:=HJN.out;omega)] at h;exact h)⟩):P:=h
theorem repGL {P:Prop}(h:P:=by
 obtain⟨N2,hN2⟩:∃N:Nat,N=mv.toNat:=⟨_,rfl⟩;have HN2:=lh hN2;have hNb:N2<=1000:=by have:=HMV.out;omega
 clear hN2;have HJ0:=lh (OwnJ.nil w5 w.heap.size);have HX0:Hid (∀x∈([]:List Nat),x<hs1.length):=lh si;have HL0:Hid (hs1.length<=hs1.length/\hs1.length+0<=hs1.length+B*0):=lh om;have HE0:Hid ((insL hs1,([]:List Nat))=iterC (repS (codeT t)) 0 (iterC (codeT t) i (insL hs),[])):=lh (by rw[HS1.out];rfl);clear z4 hmb hm
 go_loopw [6,38] (fun v6 v38 wr=>∃(k:Nat) (J:Option Addr) (jc:Nat) (js:List Nat) (A2:Option Addr) (c2:Nat) (hs2:List Hin),v6=.slice J k jc/\v38=.int .i64 k/\k<=N2/\Hid (CS wE base gc gq gw ga gr wr A2 c2 hs2)/\Hid (CT gc A w A2 wr)/\Hid (OwnJ wr w.heap.size J k jc js)/\Hid (∀x∈js,x<hs2.length)/\Hid (hs1.length<=hs2.length/\hs2.length+k<=hs1.length+B*k)/\Hid ((insL hs2,js)=iterC (repS (codeT t)) k (iterC (codeT t) i (insL hs),[]))) (fun _ v _=>N2-(intOf v).toNat)
 case atStart=>exact⟨0,none,0,[],A1,c1,hs1,rfl,rfl,om,HC5,HT5,HJ0,HX0,HL0,HE0⟩
 case round=>
  clear HC5 HT5 HJ0 HX0 HL0 HE0;obtain⟨k,J,jc,js,A2,c2,hs2,rfl,rfl,hk,HC,HT,HJ,HX,HL2,HE⟩:=hrel;by_cases hlt:k<N2
  ·have hltI:(k:Int)<mv:=by have:=HN2.out;omega
   have HLE:Hid (hs2.length+B<=100000):=lh (by
    have:=rep_len2 (p:=i) hM rfl hpb hmx hmm HN2.out hlt HMV.out HL.out.2 HL2.out.2;omega)
   have q0:wr.cell? ⟨gq,0,none⟩=some (.func (Fn.func 160) #[] #[.pointer (some ⟨gc,0,none⟩)]):=HC.out.bx.wb.q.cell 0;have HP:=lh (hput_cs wE wr base gc gq gw ga gr hE hbg A2 c2 hs2 HC.out (by have:=HLE.out;omega) (by have:=HC.out.b.lt;omega) (hin0 0) (hin0_wf (by unfold I64;omega)) (OwnP.nil _ _) (by simp[hin0]) (SetE.nil _));unfold hin0 at HP;have HWL:=lh HT.out.kp.size;have HC5:=HC;have HT5:=HT;have HJ5:=HJ;clear HC HT HJ
   go_upto_region 11 with(first|(go_at_call 160;refine HP.out.mono ?_;rintro e w6 ⟨A6,c6,rfl,hc6,ht6⟩;have HJ6:=HJ5.out.ct HC5.out.b ht6)|(at_builtin;refine wpList_appJ (w1:=w6) rfl _ _ _ rfl infoInt Tryz.underlying22 w.heap.size (by have:=ht6.kp.size;have:=HWL.out;omega) _ hs2.length rfl rfl J k jc js rfl HJ6 rfl om ?_;intro J7 jc7 w7 hj7 hg7))
   have HC7:=lh (hc6.grow HJ6 (Nat.le_trans hE (Nat.le_trans hbg (Nat.le_of_lt hwl))) hg7);have HT7:=lh ((HT5.out.trans ht6).grow HJ6 hg7);have HJ7:=lh hj7;clear HC5 HT5 HJ5 HP q0 hc6 ht6 hj7 hg7 HJ6 HWL;obtain⟨hs6,hs6e⟩:∃l,l=hs2++[⟨0,0,0,0,none,0,[]⟩]:=⟨_,rfl⟩
   rw[<-hs6e] at HC7;have HL6:Hid (hs6.length=hs2.length+1):=lh (by rw[hs6e];simp);have HI6:Hid (insL hs6=insL hs2++[⟨0,0,0,0,[]⟩]):=lh (by rw[hs6e,insL_append];rfl);clear hs6e;have nb:b∉gc::bl A6:=fun e=>by
    have h1:=HC7.out.b.lt;rcases List.mem_cons.1 e with e|e
    ·omega
    ·have:=OwnS.row HC7.out.o b (bl.mem e);omega
   have z2:=HC7.out.x.cell C2.out;have z5:w7.cell? ⟨gw,0,none⟩=some (.func (Fn.func 164) #[] #[.pointer (some ⟨gq,0,none⟩),.pointer (some ⟨gw,0,none⟩),.pointer (some ⟨ga,0,none⟩),.pointer (some ⟨gr,0,none⟩)]):=HC7.out.bx.wb.w.cell 0;have d0:=fun(w':World) (h:Kp (gc::bl A6) w7 w')=>h.cell z5 (HC7.out.nin HC7.out.bx.wb.w de de);have d1:=fun(w':World) (h:Kp (gc::bl A6) w7 w')=>h.cell z2 nb;have h0N:0<kl:=om;clear z2 z5 nb;refine Xr.start (gc::bl A6) kr ?_;refine Xtk 0 ?_
   iterate 5(refine Xtn ?_)
   clear d0 d1;refine Xsp 6 fun w3 hE3 hK3 Kk hKK=>?_;go_simp;refine(IH _ _ _ HK.out w3 A6 c6 hs6 (HC7.out.ext hE3) (by
    have:=rep_len3 (p:=i) hB h3 hM rfl hpb hmx hmm HN2.out hlt HMV.out HL.out.2 HL2.out.2;have:=HL6.out;omega)).mono ?_
   rintro e w4 ⟨hs4,A4,c4,rfl,hc4,ht4,hlo4,hhi4,HI4⟩;refine hKK _ _ (WI_kp ht4.kp CQ.mem) (hK3.kpP ht4.kp CQ.mem) ?_;clear hKK;refine ptm ?_;refine Xdn fun w5 hE5 hK5=>?_;have T5:=lh (((CT.of_ext gc A6 hE3).trans ht4).trans (CT.of_ext gc A4 hE5));have HC5:=lh (hc4.ext hE5);have HT5:=lh (HT7.out.trans T5.out);have HJ5:=lh (HJ7.out.ct HC7.out.b T5.out);have HL5:Hid (hs1.length<=hs4.length/\hs4.length+(k+1)<=hs1.length+B*(k+1)):=lh (by have:=HL2.out;have:=HL6.out;have:=mul_step B k;omega);have HX5:Hid (∀x∈js++[hs2.length],x<hs4.length):=lh (fun x hx=>by
    have:=HL6.out;rcases List.mem_append.1 hx with hx|hx
    ·have:=HX.out x hx;omega
    ·rw[List.mem_singleton.1 hx];omega)
   clear hE3 hK3 hE5 hK5 hc4 ht4 hlo4 hhi4 HC7 HT7 HJ7 T5
   go_wp2_with fail
   go_roundw
   case rel=>exact⟨k+1,J7,jc7,js++[hs2.length],A4,c4,hs4,rfl,by go_num,om,HC5,HT5,HJ5,HX5,HL5,lh (by
    rw[iterC_succ,<-HE.out];unfold repS
    simp only[<-HI6.out,<-HI4.out,insL_len])⟩
   case measure=>simp[intOf];omega
  ·have hkN:N2=k:=om;subst hkN;have hltI:¬(N2:Int)<mv:=by have:=HN2.out;have:=HMV.out;omega
   go_upto_region 13 with fail
   have z4:=HC.out.x.cell C4.out;have HLN:=rep_len (p:=i) hB h3 hM rfl hpb hmx hmm HN2.out HMV.out HL.out.2 HL2.out.2;have HLL:=lh HLN;have hjc:=HJ.out.caps;have HJN:=lh HJ.out.1;clear HLN;by_cases hm:mx = -1
   ·have hmb:(mx == -1)=true:=by simp[hm]
    have HM:=lh hm;have h0N:0<N2:=by have:=HN2.out;have:=HMV.out;omega
    obtain⟨jg,jo,j,rfl,cj,hj,hjk⟩:=HJ.out.get (i:=0) h0N;have HJK:=lh hjk;clear hjk;rw[Nat.add_zero] at cj;have q0:wr.cell? ⟨gq,0,none⟩=some (.func (Fn.func 160) #[] #[.pointer (some ⟨gc,0,none⟩)]):=HC.out.bx.wb.q.cell 0;have d0:=fun(w':World) (h:Kp (gc::bl A2) wr w')=>h.cell q0 (HC.out.nin HC.out.bx.wb.q de de);have d1:=fun(w':World) (h:Kp (gc::bl A2) wr w')=>h.cell cj (fun e=>by
     rcases List.mem_cons.1 e with e|e
     ·exact own_blk HJ.out.2 HC.out.b de (by rw[<-e];rfl)
     ·obtain⟨_,cur,e1⟩:=OwnS.blt HC.out.o (bl.mem e);exact own_blk HJ.out.2 (show Blk wr jg _ cur from e1) de rfl)
    clear q0 cj
    go_upto_region 14 with fail
    clear hmb hm z4;refine Xr.start (gc::bl A2) kr ?_;refine Xtk 0 ?_
    iterate 4(refine Xtn ?_)
    clear d0 d1;refine Xsp 5 fun w3 hE3 hK3 Kk hKK=>?_;go_simp;refine(hput_cs wE w3 base gc gq gw ga gr hE hbg A2 c2 hs2 (HC.out.ext hE3) (by have:=HLL.out.1 HM.out;omega) (by have:=(HC.out.ext hE3).b.lt;omega) ⟨3,j,0,0,none,0,[]⟩ (by have:=HX.out j hj;have:=HLL.out.1 HM.out;simp only[Hin.wf,I64];omega) (OwnP.nil _ _) si (SetE.nil _)).mono ?_;rintro e w4 ⟨A4,c4,rfl,hc4,ht4⟩;refine hKK _ _ (WI_kp ht4.kp CQ.mem) (hK3.kpP ht4.kp CQ.mem) ?_;clear hKK;refine ptm ?_;refine Xdn fun w6 hE6 hK6=>?_;have T6:=lh (((CT.of_ext gc A2 hE3).trans ht4).trans (CT.of_ext gc A4 hE6));obtain⟨hs6,hs6e⟩:∃l,l=hs2++[⟨3,j,0,0,none,0,[]⟩]:=⟨_,rfl⟩;have HC6:=lh (hc4.ext hE6)
    rw[<-hs6e] at HC6;have HLs:Hid (hs6.length=hs2.length+1):=lh (by rw[hs6e];simp);have HFN:Hid (setSs md hs6.length (js.drop 0) (insL hs6)=F (insL hs)):=lh (by
     have hN:N2=1:=by
      have:=HN2.out;rcases HMV.out with⟨h1,_⟩|⟨_,h2⟩
      ·omega
      ·exact absurd HM.out h2
     rw[HFF.out];unfold repC;simp only[if_pos HM.out,<-hN,<-HE.out];have h0:js.headD 0=j:=by
      cases js with
      | nil=>simp at HJK;exact absurd HJK.out si
      | cons a l=>have:=HJK.out;simpa using this
     rw[h0,hs6e,insL_append,List.drop_zero];simp only[insL_one,List.length_append,insL_len,List.length_cons,List.length_nil]
     rfl)
    clear hs6e;have HT6:=lh (HT.out.trans T6.out);have HJ6:=lh (HJ.out.ct HC.out.b T6.out);have HX6:Hid (∀x∈js,x<hs6.length):=lh (fun x hx=>by have:=HX.out x hx;have:=HLs.out;omega);have HL6:Hid (hs.length<=hs6.length/\hs6.length+2<=hs.length+M):=lh (by have:=HLL.out.1 HM.out;have:=HLs.out;have:=HL.out;have:=HL2.out;omega);obtain⟨A6,rfl⟩:∃B,B=A4:=⟨_,rfl⟩;obtain⟨c6,rfl⟩:∃B,B=c4:=⟨_,rfl⟩;obtain⟨J,hJe⟩:∃J:Option Addr,J=some ⟨jg,jo,none⟩:=⟨_,rfl⟩
    rw[<-hJe] at HJ6 ⊢;clear hJe hE3 hK3 hE6 hK6 hc4 ht4 HC HT HJ HX HL2 T6 hltI h0N
    go_upto_region 16 with fail
    exact repGM
   ·have hmb:(mx == -1)=false:=by simp[hm]
    have HC6:=HC;have HT6:=HT;have HJ6:=HJ;have HX6:=HX;have HL6:Hid (hs.length<=hs2.length/\hs2.length+2<=hs.length+M):=lh (by have:=HLL.out.2 hm;have:=HL.out;have:=HL2.out;omega);have HFN:Hid (setSs md hs2.length (js.drop 0) (insL hs2)=F (insL hs)):=lh (by
     have hN:N2=(mx-(i:Int)).toNat:=by
      have:=HN2.out;rcases HMV.out with⟨_,h1⟩|⟨h2,_⟩
      ·exact absurd h1 hm
      ·rw[this,h2]
     rw[HFF.out];unfold repC;simp only[if_neg hm,<-hN,<-HE.out,insL_len,List.drop_zero])
    obtain⟨A6,rfl⟩:∃B,B=A2:=⟨_,rfl⟩;obtain⟨c6,rfl⟩:∃B,B=c2:=⟨_,rfl⟩;obtain⟨hs6,rfl⟩:∃B,B=hs2:=⟨_,rfl⟩;clear HC HT HJ HX HL2 hltI
    go_upto_region 16 with fail
    clear hmb hm z4;exact repGM):P:=h
theorem hrep_G (wE:World)(base gc gq gw ga gr d B M:Nat)(hE:wE.heap.size<=base)(hbg:base<=gc)(IH:WrOkG wE base gc gq gw ga gr d B)(hB:2<=B)(h3:B*3<=M)
 (b o:Nat) (n:Nd) (T t:Tm) (hnG:PgN wE b o d n T) (htk:T.kids.head? = some t) (hbl:b<wE.heap.size)
 (w:World) (A:Option Addr) (c:Nat) (hs:List Hin) (hc:CS wE base gc gq gw ga gr w A c hs) (hl:hs.length+M<=100000) :
 Calls Tryz.prog 161 #[.pointer (some ⟨b,o,none⟩),.pointer (some ⟨gw,0,none⟩),.pointer (some ⟨gq,0,none⟩),.pointer (some ⟨gc,0,none⟩)] w (RetWe (repC (codeT t) n.mn.toNat n.mx n.md) wE base gc gq gw ga gr w A hs M):=by
 have hM:B*3<=M:=h3;have hbd:3<=1000:=om;obtain⟨bd,hbde⟩:∃bd,bd=3:=⟨_,rfl⟩
 rw[<-hbde] at hM hbd;have hn:=hnG.pn;have ht0:∃h0:0<T.kids.length,T.kids[0]=t:=by
  cases hT:T.kids with
  | nil=>rw[hT] at htk;cases htk
  | cons a l=>rw[hT] at htk;injection htk with htk;exact⟨by simp,by simpa using htk⟩
 obtain⟨h0t,ht0⟩:=ht0;have hone:1<=n.ks.length:=by rw[hnG.len];exact h0t
 obtain⟨kb,ko,eK,hk⟩:=hnG.kid 0 h0t;rw[Nat.zero_mul,Nat.add_zero,ht0] at hk;have HK:=lh hk;have HC:=lh hc;have hwl:=hc.b.lt;obtain⟨c0,_,c2,c3,c4,c5,_⟩:=hn.p.c8;rw[eK] at c2;have C2:=lh c2;have C3:=lh c3;have C4:=lh c4;have C5:=lh c5;have hmn:=hn.ok.mn;have hmx:=hn.ok.mx;have hmm:=hn.ok.mm
 rw[<-hbde] at hmn hmx hmm;have hkI:(1:Int)<=n.ks.length:=om;have hkc:n.ks.length<=n.kc/\n.kc<=9223372036854775807:=⟨hn.le,by have:=hn.cap;unfold maxLen at this;omega⟩;clear c0 c2 c3 c4 c5 eK hn hk hc hnG htk ht0 h0t hone hbde;generalize n.mx=mx at *;generalize n.md=md at *;generalize n.ks.length=kl at *;generalize n.kc=kc at *;generalize n.mn=mn at *;obtain⟨p,rfl⟩:∃p:Nat,mn=(p:Int):=⟨mn.toNat,om⟩;have hpb:p<=bd:=om;obtain⟨F,hF⟩:∃F,F=repC (codeT t) (p:Int).toNat mx md:=⟨_,rfl⟩
 rw[<-hF];have HFF:=lh hF;rw[Int.toNat_natCast] at HFF;clear hF;have c3:=HC.out.x.cell C3.out;go_enter Tryz.func161,Tryz.ntmps161
 go_upto_region 1 with fail
 clear c3;have HT0:=lh (CT.refl gc A w);have HL0:Hid (hs.length<=hs.length/\hs.length+2*0<=hs.length+B*0):=lh om;have HC0:=HC;have HS0:Hid (insL hs=iterC (codeT t) 0 (insL hs)):=lh rfl
 go_loopw [13] (fun v13 wr=>∃(i:Nat) (A1:Option Addr) (c1:Nat) (hs1:List Hin),v13=.int .i64 i/\i<=p/\Hid (CS wE base gc gq gw ga gr wr A1 c1 hs1)/\Hid (CT gc A w A1 wr)/\Hid (hs.length<=hs1.length/\hs1.length+2*i<=hs.length+B*i)/\Hid (insL hs1=iterC (codeT t) i (insL hs))) (fun v _=>p-(intOf v).toNat)
 case atStart=>exact⟨0,A,c,hs,rfl,om,HC0,HT0,HL0,HS0⟩
 case round=>
  clear HC HC0 HT0 HL0 HS0;obtain⟨i,A1,c1,hs1,rfl,hi,HC,HT,HL,HS1⟩:=hrel;have nb:b∉gc::bl A1:=fun e=>by
   have h1:=HC.out.b.lt;rcases List.mem_cons.1 e with e|e
   ·omega
   ·have:=OwnS.row HC.out.o b (bl.mem e);omega
  by_cases hlt:i<p
  ·have hltI:(i:Int)<p:=om;have z2:=HC.out.x.cell C2.out;have z5:wr.cell? ⟨gw,0,none⟩=some (.func (Fn.func 164) #[] #[.pointer (some ⟨gq,0,none⟩),.pointer (some ⟨gw,0,none⟩),.pointer (some ⟨ga,0,none⟩),.pointer (some ⟨gr,0,none⟩)]):=HC.out.bx.wb.w.cell 0;have d0:=fun(w':World) (h:Kp (gc::bl A1) wr w')=>h.cell z5 (HC.out.nin HC.out.bx.wb.w de de);have d1:=fun(w':World) (h:Kp (gc::bl A1) wr w')=>h.cell z2 nb;have h0N:0<kl:=om;clear z2 z5
   go_upto_region 2 with fail
   refine Xr.start (gc::bl A1) kr ?_;refine Xtk 0 ?_
   iterate 5(refine Xtn ?_)
   clear d0 d1;refine Xsp 6 fun w3 hE3 hK3 Kk hKK=>?_;go_simp;refine(IH _ _ _ HK.out w3 A1 c1 hs1 (HC.out.ext hE3) (by have:=HL.out;have:=mul_step B i;have:=Nat.mul_le_mul_left B (show i+1<=bd by omega);omega)).mono ?_;rintro e w4 ⟨hs4,A4,c4,rfl,hc4,ht4,hlo4,hhi4,HI4⟩;refine hKK _ _ (WI_kp ht4.kp CQ.mem) (hK3.kpP ht4.kp CQ.mem) ?_;clear hKK;refine ptm ?_;refine Xdn fun w5 hE5 hK5=>?_;have HC5:=lh (hc4.ext hE5);have HT5:=lh (HT.out.trans (((CT.of_ext gc A1 hE3).trans ht4).trans (CT.of_ext gc A4 hE5)));have HL5:Hid (hs.length<=hs4.length/\hs4.length+2*(i+1)<=hs.length+B*(i+1)):=lh (by have:=HL.out;have:=mul_step B i;omega);clear hE3 hK3 hE5 hK5 hc4 ht4 hlo4 hhi4 HC HT HL nb
   go_wp2_with fail
   go_roundw
   case rel=>exact⟨i+1,A4,c4,hs4,by go_num,om,HC5,HT5,HL5,lh (by rw[iterC_succ,<-HS1.out,<-HI4.out])⟩
   case measure=>simp[intOf];omega
  ·have hip:i=p:=om;subst hip;have hltI:¬(i:Int)<(i:Int):=om;have z3:=HC.out.x.cell C3.out;have z4:=HC.out.x.cell C4.out;have d0:=kc0 z3;have d1:=kc0 z4;have hwi:IntKind.i64.wrap (mx-(i:Int))=mx-i:=wj;clear z3 z4
   go_upto_region 4 with fail
   refine Xr.start [] kr ?_;refine Xtk 0 ?_
   iterate 9(refine Xtn ?_)
   refine Xdn fun w5 hE5 hK5=>?_;have x5:=hK5.nil;have HC5:=lh (HC.out.ext x5);have HT5:=lh (HT.out.trans (CT.of_ext gc A1 x5));have z4:=HC5.out.x.cell C4.out;clear hE5 hK5 x5 d0 d1 hwi HC HT hltI;by_cases hm:mx = -1
   ·have hmb:(mx == -1)=true:=by simp[hm]
    go_upto_region 9 with fail
    obtain⟨mv,hmv⟩:∃mv:Int,mv=1:=⟨1,rfl⟩
    conv=>arg 4;rw[<-hmv]
    have HMV:Hid ((mv=1/\mx = -1)\/(mv=mx-(i:Int)/\mx≠-1)):=lh (.inl ⟨hmv,hm⟩);clear hmv;exact repGL
   ·have hmb:(mx == -1)=false:=by simp[hm]
    go_upto_region 9 with fail
    obtain⟨mv,hmv⟩:∃mv,mv=mx-(i:Int):=⟨_,rfl⟩
    rw[<-hmv];have HMV:Hid ((mv=1/\mx = -1)\/(mv=mx-(i:Int)/\mx≠-1)):=lh (.inr ⟨hmv,hm⟩);clear hmv;exact repGL
end
end Go.Proofs.YtmgpefenkilffaaGreat
