/- Texts of this proof: OC OD OE OF O3 O4 OG. -/
import Derived.Test.YtmocoldobnimfaaGreatRS29
import Derived.Test.YtmocoldobnimfaaGreatRS33
set_option linter.all false
set_option maxRecDepth 100000
set_option maxHeartbeats 16000000
namespace Go.Proofs.YtmocoldobnimfaaGreat
section
open Go.RowKit
attribute [local go_sem ↓] Go.wp_at_zero Go.wp_at_succ
theorem own_c5g {w:World}{base c i g:Nat}{hs:List Hin}(h:OwnS w base 126 5 (some ⟨g,0,none⟩) hs.length c (flatN hs))(hi:i<hs.length) :
 ∀k,k<5->∃v,w.cell? ⟨g,i*5+k,none⟩=some v/\w.frozen? ⟨g,i*5+k,none⟩=false:=by
 obtain⟨g',e,_,hc⟩:=own_c5 h hi;injection e with e;injection e with e _ _
 subst e;exact hc
theorem setQ5_kpp {p:Nat->Prop}{a w:World}{g:Nat}(h:KpP p a w)(hg:p g)(q:Nat)(op x y n:Int):KpP p a (setQ5 w g q op x y n):=
 (((((h.set (x:=⟨g,q,none⟩) (.inl hg) _).set (x:=⟨g,q+1,none⟩) (.inl hg) _).set (x:=⟨g,q+2,none⟩) (.inl hg) _).set (x:=⟨g,q+3,none⟩) (.inl hg) _).set (x:=⟨g,q+4,none⟩) (.inl hg) _)
theorem rep_len {B M bd p i a b c:Nat}{mv mx mn:Int}(hB:2<=B)(h3:B*3<=M)(hM:B*bd<=M)(hp:(p:Int)=mn)(hpb:p<=bd)(hmx : -1<=mx/\mx<=bd)(hmm:mx = -1->mn+1<=bd)(hi:i=mv.toNat)
 (h:(mv=1/\mx = -1)\/(mv=mx-mn/\mx≠-1)) (h1:b+2*p<=a+B*p) (h2:c+i<=b+B*i):(mx = -1->c+3<=a+M)/\(mx≠-1->c+2<=a+M):=by
 have hd:=Nat.mul_add B p i;have hpi:p+i<=bd:=by
  rcases h with⟨e1,e2⟩|⟨e1,e2⟩
  ·have:=hmm e2;omega
  ·omega
 have hle:=Nat.mul_le_mul_left B hpi;refine⟨fun e=>?_,fun e=>?_⟩
 ·have hi1:i=1:=om;subst hi1;by_cases h0:p=0
  ·subst h0;omega
  ·omega
 ·by_cases h0:2<=2*p+i
  ·omega
  ·have hp0:p=0:=om;subst hp0;have:i=0\/i=1:=om;rcases this with rfl|rfl<;>omega
theorem rep_len2 {B M bd p i j a b c:Nat}{mv mx mn:Int}(hM:B*bd<=M)(hp:(p:Int)=mn)(hpb:p<=bd)(hmx : -1<=mx/\mx<=bd)(hmm:mx = -1->mn+1<=bd)(hi:i=mv.toNat)(hj:j<i)
 (h:(mv=1/\mx = -1)\/(mv=mx-mn/\mx≠-1)) (h1:b+2*p<=a+B*p) (h2:c+j<=b+B*j):c+B<=a+M:=by
 have hd:=Nat.mul_add B p (j+1);have hs:=mul_step B j;have hpi:p+(j+1)<=bd:=by
  rcases h with⟨e1,e2⟩|⟨e1,e2⟩
  ·have:=hmm e2;omega
  ·omega
 have hle:=Nat.mul_le_mul_left B hpi;omega
theorem rep_len3 {B M bd p i j a b c:Nat}{mv mx mn:Int}(hB:2<=B)(h3:B*3<=M)(hM:B*bd<=M)(hp:(p:Int)=mn)(hpb:p<=bd)(hmx : -1<=mx/\mx<=bd)(hmm:mx = -1->mn+1<=bd)(hi:i=mv.toNat)(hj:j<i)
 (h:(mv=1/\mx = -1)\/(mv=mx-mn/\mx≠-1)) (h1:b+2*p<=a+B*p) (h2:c+j<=b+B*j):c+1+B<=a+M:=by
 have hd:=Nat.mul_add B p (j+1);have hs:=mul_step B j;have hpi:p+(j+1)<=bd:=by
  rcases h with⟨e1,e2⟩|⟨e1,e2⟩
  ·have:=hmm e2;omega
  ·omega
 have hle:=Nat.mul_le_mul_left B hpi;by_cases h0:1<=2*p+j
 ·omega
 ·have hp0:p=0:=om;have hj0:j=0:=om;subst hp0 hj0;omega
theorem repM {P:Prop}(h:P:=by
 go_loopw [67] (fun v67 wr=>∃(k:Nat) (A1:Option Addr) (c1:Nat) (hs1:List Hin),v67=.int .i64 k/\k<=N2/\Hid (CS wE base gc gq gw ga gr wr A1 c1 hs1)/\Hid (CT gc A w A1 wr)/\Hid (OwnJ wr w.heap.size J N2 jc js)/\Hid (hs1.length=hs6.length)) (fun v _=>N2-(intOf v).toNat)
 case atStart=>exact⟨0,A6,c6,hs6,rfl,om,HC6,HT6,HJ6,lh rfl⟩
 case round=>
  clear HC6 HT6 HJ6;obtain⟨k,A1,c1,hs1,rfl,hk,HC,HT,HJ,HL1⟩:=hrel;by_cases hlt:k<N2
  ·have hltI:(k:Int)<(N2:Int):=om;obtain⟨jg,jo,j,rfl,cj,hj,_⟩:=HJ.out.get hlt;have hj1:j<hs1.length:=by have:=HX6.out j hj;have:=HL1.out;omega
   have hj1I:(j:Int)<(hs1.length:Int):=om;obtain⟨g,eA,hbase,hcell⟩:=own_c5 HC.out.o hj1;subst eA;clear hcell;have hb1:hs1.length<=100000:=by have:=HL6.out;have:=HL1.out;omega
   have z0:wr.cell? ⟨gc,0,none⟩=some (.slice (some ⟨g,0,none⟩) hs1.length c1):=HC.out.b.cell 0;have z5:=HC.out.x.cell C5.out;have hgc:gc∉[g]:=by
    intro e;rw[List.mem_singleton] at e;exact own_blk HC.out.o HC.out.b de (by rw[e];rfl)
   have hgb:b∉[g]:=by
    intro e;rw[List.mem_singleton] at e;omega
   have hcap:=OwnS.caps HC.out.o;have hwi:IntKind.i64.wrap ((j:Int)+1)=(j:Int)+1:=wj;have hwj:IntKind.i64.wrap (j:Int)=(j:Int):=wj;clear hj
   go_upto_region 18 with fail
   have d0:=fun(w':World) (h:Kp [g] wr w')=>h.cell z0 hgc;have d1:=fun(w':World) (h:Kp [g] wr w')=>h.cell z5 hgb;refine Xr.start [g] kr ?_;refine Xtk 0 ?_
   iterate 9(refine Xtn ?_)
   refine Xcl 10 fun w3 hE3 hK3 Kk hKK=>?_;go_simp;refine(hsplit_any w3 ((j:Int)+1) (hs1.length:Int) md (by unfold I64;omega) (by unfold I64;omega)).mono ?_;rintro e w4 ⟨x,y,rfl,hx,hy,x4⟩;refine hKK _ _ x4 ?_;clear hKK d0 d1;refine ptm ?_;refine Xtk 11 ?_;refine Xsp 12 fun w5 hE5 hK5 Kk hKK=>?_;have HX5:=lh ((hE3.trans x4).trans hE5);have HK5:=lh hK5;have HC5:=lh (HC.out.ext HX5.out);have hcell:=own_c5g HC5.out.o hj1;obtain⟨v0,y0,f0⟩:=hcell 0 om;obtain⟨v1,y1,f1⟩:=hcell 1 om;obtain⟨v2,y2,f2⟩:=hcell 2 om;obtain⟨v3,y3,f3⟩:=hcell 3 om;obtain⟨v4,y4,f4⟩:=hcell 4 om;simp only[Nat.add_zero] at y0 f0;clear hcell;have HPUT:=lh (HC5.out.put5 hE hj1 rfl (op:=2) (x:=x) (y:=y) (n:=0) (by unfold I64 at *;omega));clear hwi hwj hgc hgb z0 z5 hcap hE3 hK3 x4 hx hy hE5 hK5 cj hj1I hltI hj1;go_simp;have hkS:=setQ5_kpp (p:=(·=g)) (KpP.refl _ w5) rfl (j*5) 2 x y 0;refine hKK _ _ (KpP.mono hkS (fun b hb=>.inl (by simpa using hb))) (HK5.out.kpP hkS (fun b hb=>by simpa using hb)) ?_;clear hKK;have HC8:=lh HPUT.out.1;have HT8:=lh ((HT.out.trans (CT.of_ext gc _ HX5.out)).trans HPUT.out.2);have HJ8:=lh ((HJ.out.ext HX5.out).ct HC5.out.b HPUT.out.2);have HL8:Hid ((hs1.set j ⟨2,x,y,0,none,0,[]⟩).length=hs6.length):=lh (by rw[List.length_set];exact HL1.out);change Xr _ _ _ _ _ _ _ _ _ _ _ (setQ5 w5 g (j*5) 2 x y 0);generalize hs1.set j ⟨2,x,y,0,none,0,[]⟩=hs8 at *;generalize setQ5 w5 g (j*5) 2 x y 0=w8 at *;clear y0 y1 y2 y3 y4 f0 f1 f2 f3 f4 HPUT HC HT HJ hkS HC5;refine ptm ?_;refine Xdn fun w9 hE9 hK9=>?_
   have HC9:=lh (HC8.out.ext hE9);have HT9:=lh (HT8.out.trans (CT.of_ext gc _ hE9));have HJ9:=lh (HJ8.out.ext hE9);clear HC8 HT8 HJ8 hE9 hK9 HX5 HK5
   go_wp2_with fail
   go_roundw
   case rel=>exact⟨k+1,some ⟨g,0,none⟩,c1,hs8,by go_num,om,HC9,HT9,HJ9,HL8⟩
   case measure=>simp[intOf];omega
  ·have hle:¬(k:Int)<(N2:Int):=om
   go_wp2_with fail
   exact bodyPost_end (v:=.tuple #[]) (by simp[results,Tryz.results179,go_sem]) rfl ⟨hs1,A1,c1,rfl,HC.out,HT.out,by have:=HL1.out;have:=HL6.out;omega,by have:=HL1.out;have:=HL6.out;omega⟩):P:=h
theorem repL {P:Prop}(h:P:=by
 obtain⟨N2,hN2⟩:∃N:Nat,N=mv.toNat:=⟨_,rfl⟩;have HN2:=lh hN2;have hNb:N2<=1000:=by have:=HMV.out;omega
 clear hN2;have HJ0:=lh (OwnJ.nil w5 w.heap.size);have HX0:Hid (∀x∈([]:List Nat),x<hs1.length):=lh si;have HL0:Hid (hs1.length<=hs1.length/\hs1.length+0<=hs1.length+B*0):=lh om;clear z4 hmb hm
 go_loopw [6,38] (fun v6 v38 wr=>∃(k:Nat) (J:Option Addr) (jc:Nat) (js:List Nat) (A2:Option Addr) (c2:Nat) (hs2:List Hin),v6=.slice J k jc/\v38=.int .i64 k/\k<=N2/\Hid (CS wE base gc gq gw ga gr wr A2 c2 hs2)/\Hid (CT gc A w A2 wr)/\Hid (OwnJ wr w.heap.size J k jc js)/\Hid (∀x∈js,x<hs2.length)/\Hid (hs1.length<=hs2.length/\hs2.length+k<=hs1.length+B*k)) (fun _ v _=>N2-(intOf v).toNat)
 case atStart=>exact⟨0,none,0,[],A1,c1,hs1,rfl,rfl,om,HC5,HT5,HJ0,HX0,HL0⟩
 case round=>
  clear HC5 HT5 HJ0 HX0 HL0;obtain⟨k,J,jc,js,A2,c2,hs2,rfl,rfl,hk,HC,HT,HJ,HX,HL2⟩:=hrel;by_cases hlt:k<N2
  ·have hltI:(k:Int)<mv:=by have:=HN2.out;omega
   have HLE:Hid (hs2.length+B<=100000):=lh (by
    have:=rep_len2 (p:=i) hM rfl hpb hmx hmm HN2.out hlt HMV.out HL.out.2 HL2.out.2;omega)
   have q0:wr.cell? ⟨gq,0,none⟩=some (.func (Fn.func 178) #[] #[.pointer (some ⟨gc,0,none⟩)]):=HC.out.bx.wb.q.cell 0;have HP:=lh (hput_cs wE wr base gc gq gw ga gr hE hbg A2 c2 hs2 HC.out (by have:=HLE.out;omega) (by have:=HC.out.b.lt;omega) (hin0 0) (hin0_wf (by unfold I64;omega)) (OwnP.nil _ _) (by simp[hin0]) (SetE.nil _));unfold hin0 at HP;have HWL:=lh HT.out.kp.size;have HC5:=HC;have HT5:=HT;have HJ5:=HJ;clear HC HT HJ
   go_upto_region 11 with(first|(go_at_call 178;refine HP.out.mono ?_;rintro e w6 ⟨A6,c6,rfl,hc6,ht6⟩;have HJ6:=HJ5.out.ct HC5.out.b ht6)|(at_builtin;refine wpList_appJ (w1:=w6) rfl _ _ _ rfl infoInt Tryz.underlying22 w.heap.size (by have:=ht6.kp.size;have:=HWL.out;omega) _ hs2.length rfl rfl J k jc js rfl HJ6 rfl om ?_;intro J7 jc7 w7 hj7 hg7))
   have HC7:=lh (hc6.grow HJ6 (Nat.le_trans hE (Nat.le_trans hbg (Nat.le_of_lt hwl))) hg7);have HT7:=lh ((HT5.out.trans ht6).grow HJ6 hg7);have HJ7:=lh hj7;clear HC5 HT5 HJ5 HP q0 hc6 ht6 hj7 hg7 HJ6 HWL;obtain⟨hs6,hs6e⟩:∃l,l=hs2++[⟨0,0,0,0,none,0,[]⟩]:=⟨_,rfl⟩
   rw[<-hs6e] at HC7;have HL6:Hid (hs6.length=hs2.length+1):=lh (by rw[hs6e];simp);clear hs6e;have nb:b∉gc::bl A6:=fun e=>by
    have h1:=HC7.out.b.lt;rcases List.mem_cons.1 e with e|e
    ·omega
    ·have:=OwnS.row HC7.out.o b (bl.mem e);omega
   have z2:=HC7.out.x.cell C2.out;have z5:w7.cell? ⟨gw,0,none⟩=some (.func (Fn.func 182) #[] #[.pointer (some ⟨gq,0,none⟩),.pointer (some ⟨gw,0,none⟩),.pointer (some ⟨ga,0,none⟩),.pointer (some ⟨gr,0,none⟩)]):=HC7.out.bx.wb.w.cell 0;have d0:=fun(w':World) (h:Kp (gc::bl A6) w7 w')=>h.cell z5 (HC7.out.nin HC7.out.bx.wb.w de de);have d1:=fun(w':World) (h:Kp (gc::bl A6) w7 w')=>h.cell z2 nb;have h0N:0<kl:=om;clear z2 z5 nb;refine Xr.start (gc::bl A6) kr ?_;refine Xtk 0 ?_
   iterate 5(refine Xtn ?_)
   clear d0 d1;refine Xsp 6 fun w3 hE3 hK3 Kk hKK=>?_;go_simp;refine(IH _ _ HK.out w3 A6 c6 hs6 (HC7.out.ext hE3) (by
    have:=rep_len3 (p:=i) hB h3 hM rfl hpb hmx hmm HN2.out hlt HMV.out HL.out.2 HL2.out.2;have:=HL6.out;omega)).mono ?_
   rintro e w4 ⟨hs4,A4,c4,rfl,hc4,ht4,hlo4,hhi4⟩;refine hKK _ _ (WI_kp ht4.kp CQ.mem) (hK3.kpP ht4.kp CQ.mem) ?_;clear hKK;refine ptm ?_;refine Xdn fun w5 hE5 hK5=>?_;have T5:=lh (((CT.of_ext gc A6 hE3).trans ht4).trans (CT.of_ext gc A4 hE5));have HC5:=lh (hc4.ext hE5);have HT5:=lh (HT7.out.trans T5.out);have HJ5:=lh (HJ7.out.ct HC7.out.b T5.out);have HL5:Hid (hs1.length<=hs4.length/\hs4.length+(k+1)<=hs1.length+B*(k+1)):=lh (by have:=HL2.out;have:=HL6.out;have:=mul_step B k;omega);have HX5:Hid (∀x∈js++[hs2.length],x<hs4.length):=lh (fun x hx=>by
    have:=HL6.out;rcases List.mem_append.1 hx with hx|hx
    ·have:=HX.out x hx;omega
    ·rw[List.mem_singleton.1 hx];omega)
   clear hE3 hK3 hE5 hK5 hc4 ht4 hlo4 hhi4 HC7 HT7 HJ7 T5
   go_wp2_with fail
   go_roundw
   case rel=>exact⟨k+1,J7,jc7,js++[hs2.length],A4,c4,hs4,rfl,by go_num,om,HC5,HT5,HJ5,HX5,HL5⟩
   case measure=>simp[intOf];omega
  ·have hkN:N2=k:=om;subst hkN;have hltI:¬(N2:Int)<mv:=by have:=HN2.out;have:=HMV.out;omega
   go_upto_region 13 with fail
   have z4:=HC.out.x.cell C4.out;have HLN:=rep_len (p:=i) hB h3 hM rfl hpb hmx hmm HN2.out HMV.out HL.out.2 HL2.out.2;have HLL:=lh HLN;have hjc:=HJ.out.caps;clear HLN;by_cases hm:mx = -1
   ·have hmb:(mx == -1)=true:=by simp[hm]
    have HM:=lh hm;have h0N:0<N2:=by have:=HN2.out;have:=HMV.out;omega
    obtain⟨jg,jo,j,rfl,cj,hj,_⟩:=HJ.out.get (i:=0) h0N;rw[Nat.add_zero] at cj;have q0:wr.cell? ⟨gq,0,none⟩=some (.func (Fn.func 178) #[] #[.pointer (some ⟨gc,0,none⟩)]):=HC.out.bx.wb.q.cell 0;have d0:=fun(w':World) (h:Kp (gc::bl A2) wr w')=>h.cell q0 (HC.out.nin HC.out.bx.wb.q de de);have d1:=fun(w':World) (h:Kp (gc::bl A2) wr w')=>h.cell cj (fun e=>by
     rcases List.mem_cons.1 e with e|e
     ·exact own_blk HJ.out.2 HC.out.b de (by rw[<-e];rfl)
     ·obtain⟨_,cur,e1⟩:=OwnS.blt HC.out.o (bl.mem e);exact own_blk HJ.out.2 (show Blk wr jg _ cur from e1) de rfl)
    clear q0 cj
    go_upto_region 14 with fail
    clear hmb hm z4;refine Xr.start (gc::bl A2) kr ?_;refine Xtk 0 ?_
    iterate 4(refine Xtn ?_)
    clear d0 d1;refine Xsp 5 fun w3 hE3 hK3 Kk hKK=>?_;go_simp;refine(hput_cs wE w3 base gc gq gw ga gr hE hbg A2 c2 hs2 (HC.out.ext hE3) (by have:=HLL.out.1 HM.out;omega) (by have:=(HC.out.ext hE3).b.lt;omega) ⟨3,j,0,0,none,0,[]⟩ (by have:=HX.out j hj;have:=HLL.out.1 HM.out;simp only[Hin.wf,I64];omega) (OwnP.nil _ _) si (SetE.nil _)).mono ?_;rintro e w4 ⟨A4,c4,rfl,hc4,ht4⟩;refine hKK _ _ (WI_kp ht4.kp CQ.mem) (hK3.kpP ht4.kp CQ.mem) ?_;clear hKK;refine ptm ?_;refine Xdn fun w6 hE6 hK6=>?_;have T6:=lh (((CT.of_ext gc A2 hE3).trans ht4).trans (CT.of_ext gc A4 hE6));obtain⟨hs6,hs6e⟩:∃l,l=hs2++[⟨3,j,0,0,none,0,[]⟩]:=⟨_,rfl⟩;have HC6:=lh (hc4.ext hE6)
    rw[<-hs6e] at HC6;have HLs:Hid (hs6.length=hs2.length+1):=lh (by rw[hs6e];simp);clear hs6e;have HT6:=lh (HT.out.trans T6.out);have HJ6:=lh (HJ.out.ct HC.out.b T6.out);have HX6:Hid (∀x∈js,x<hs6.length):=lh (fun x hx=>by have:=HX.out x hx;have:=HLs.out;omega);have HL6:Hid (hs.length<=hs6.length/\hs6.length+2<=hs.length+M):=lh (by have:=HLL.out.1 HM.out;have:=HLs.out;have:=HL.out;have:=HL2.out;omega);obtain⟨A6,rfl⟩:∃B,B=A4:=⟨_,rfl⟩;obtain⟨c6,rfl⟩:∃B,B=c4:=⟨_,rfl⟩;obtain⟨J,hJe⟩:∃J:Option Addr,J=some ⟨jg,jo,none⟩:=⟨_,rfl⟩
    rw[<-hJe] at HJ6 ⊢;clear hJe hE3 hK3 hE6 hK6 hc4 ht4 HC HT HJ HX HL2 T6 hltI h0N
    go_upto_region 16 with fail
    exact repM
   ·have hmb:(mx == -1)=false:=by simp[hm]
    have HC6:=HC;have HT6:=HT;have HJ6:=HJ;have HX6:=HX;have HL6:Hid (hs.length<=hs2.length/\hs2.length+2<=hs.length+M):=lh (by have:=HLL.out.2 hm;have:=HL.out;have:=HL2.out;omega);obtain⟨A6,rfl⟩:∃B,B=A2:=⟨_,rfl⟩;obtain⟨c6,rfl⟩:∃B,B=c2:=⟨_,rfl⟩;obtain⟨hs6,rfl⟩:∃B,B=hs2:=⟨_,rfl⟩;clear HC HT HJ HX HL2 hltI
    go_upto_region 16 with fail
    clear hmb hm z4;exact repM):P:=h
theorem hrep_any (bd:Nat)(wE:World)(base gc gq gw ga gr d B M:Nat)(hE:wE.heap.size<=base)(hbg:base<=gc)(IH:WrOk bd wE base gc gq gw ga gr d B)(hB:2<=B)(hbd:bd<=1000)(h3:B*3<=M)(hM:B*bd<=M)
 (b o:Nat) (n:Nd) (hn:PnN bd wE b o d n) (hone:1<=n.ks.length) (hbl:b<wE.heap.size)
 (w:World) (A:Option Addr) (c:Nat) (hs:List Hin) (hc:CS wE base gc gq gw ga gr w A c hs) (hl:hs.length+M<=100000) :
 Calls Tryz.prog 179 #[.pointer (some ⟨b,o,none⟩),.pointer (some ⟨gw,0,none⟩),.pointer (some ⟨gq,0,none⟩),.pointer (some ⟨gc,0,none⟩)] w (RetW wE base gc gq gw ga gr w A hs M):=by
 obtain⟨kb,ko,eK,hk⟩:=hn.kid 0 om;rw[Nat.zero_mul,Nat.add_zero] at hk;have HK:=lh hk;have HC:=lh hc;have hwl:=hc.b.lt;obtain⟨c0,_,c2,c3,c4,c5,_⟩:=hn.p.c8;rw[eK] at c2;have C2:=lh c2;have C3:=lh c3;have C4:=lh c4;have C5:=lh c5;have hmn:=hn.ok.mn;have hmx:=hn.ok.mx;have hmm:=hn.ok.mm;have hkI:(1:Int)<=n.ks.length:=om;have hkc:n.ks.length<=n.kc/\n.kc<=9223372036854775807:=⟨hn.le,by have:=hn.cap;unfold maxLen at this;omega⟩;clear c0 c2 c3 c4 c5 eK hn hk hc;generalize n.mx=mx at *;generalize n.md=md at *;generalize n.ks.length=kl at *;generalize n.kc=kc at *;generalize n.mn=mn at *;obtain⟨p,rfl⟩:∃p:Nat,mn=(p:Int):=⟨mn.toNat,om⟩;have hpb:p<=bd:=om;have c3:=HC.out.x.cell C3.out;go_enter Tryz.func179,Tryz.ntmps179
 go_upto_region 1 with fail
 clear c3;have HT0:=lh (CT.refl gc A w);have HL0:Hid (hs.length<=hs.length/\hs.length+2*0<=hs.length+B*0):=lh om;have HC0:=HC
 go_loopw [13] (fun v13 wr=>∃(i:Nat) (A1:Option Addr) (c1:Nat) (hs1:List Hin),v13=.int .i64 i/\i<=p/\Hid (CS wE base gc gq gw ga gr wr A1 c1 hs1)/\Hid (CT gc A w A1 wr)/\Hid (hs.length<=hs1.length/\hs1.length+2*i<=hs.length+B*i)) (fun v _=>p-(intOf v).toNat)
 case atStart=>exact⟨0,A,c,hs,rfl,om,HC0,HT0,HL0⟩
 case round=>
  clear HC HC0 HT0 HL0;obtain⟨i,A1,c1,hs1,rfl,hi,HC,HT,HL⟩:=hrel;have nb:b∉gc::bl A1:=fun e=>by
   have h1:=HC.out.b.lt;rcases List.mem_cons.1 e with e|e
   ·omega
   ·have:=OwnS.row HC.out.o b (bl.mem e);omega
  by_cases hlt:i<p
  ·have hltI:(i:Int)<p:=om;have z2:=HC.out.x.cell C2.out;have z5:wr.cell? ⟨gw,0,none⟩=some (.func (Fn.func 182) #[] #[.pointer (some ⟨gq,0,none⟩),.pointer (some ⟨gw,0,none⟩),.pointer (some ⟨ga,0,none⟩),.pointer (some ⟨gr,0,none⟩)]):=HC.out.bx.wb.w.cell 0;have d0:=fun(w':World) (h:Kp (gc::bl A1) wr w')=>h.cell z5 (HC.out.nin HC.out.bx.wb.w de de);have d1:=fun(w':World) (h:Kp (gc::bl A1) wr w')=>h.cell z2 nb;have h0N:0<kl:=om;clear z2 z5
   go_upto_region 2 with fail
   refine Xr.start (gc::bl A1) kr ?_;refine Xtk 0 ?_
   iterate 5(refine Xtn ?_)
   clear d0 d1;refine Xsp 6 fun w3 hE3 hK3 Kk hKK=>?_;go_simp;refine(IH _ _ HK.out w3 A1 c1 hs1 (HC.out.ext hE3) (by have:=HL.out;have:=mul_step B i;have:=Nat.mul_le_mul_left B (show i+1<=bd by omega);omega)).mono ?_;rintro e w4 ⟨hs4,A4,c4,rfl,hc4,ht4,hlo4,hhi4⟩;refine hKK _ _ (WI_kp ht4.kp CQ.mem) (hK3.kpP ht4.kp CQ.mem) ?_;clear hKK;refine ptm ?_;refine Xdn fun w5 hE5 hK5=>?_;have HC5:=lh (hc4.ext hE5);have HT5:=lh (HT.out.trans (((CT.of_ext gc A1 hE3).trans ht4).trans (CT.of_ext gc A4 hE5)));have HL5:Hid (hs.length<=hs4.length/\hs4.length+2*(i+1)<=hs.length+B*(i+1)):=lh (by have:=HL.out;have:=mul_step B i;omega);clear hE3 hK3 hE5 hK5 hc4 ht4 hlo4 hhi4 HC HT HL nb
   go_wp2_with fail
   go_roundw
   case rel=>exact⟨i+1,A4,c4,hs4,by go_num,om,HC5,HT5,HL5⟩
   case measure=>simp[intOf];omega
  ·have hip:i=p:=om;subst hip;have hltI:¬(i:Int)<(i:Int):=om;have z3:=HC.out.x.cell C3.out;have z4:=HC.out.x.cell C4.out;have d0:=kc0 z3;have d1:=kc0 z4;have hwi:IntKind.i64.wrap (mx-(i:Int))=mx-i:=wj;clear z3 z4
   go_upto_region 4 with fail
   refine Xr.start [] kr ?_;refine Xtk 0 ?_
   iterate 9(refine Xtn ?_)
   refine Xdn fun w5 hE5 hK5=>?_;have x5:=hK5.nil;have HC5:=lh (HC.out.ext x5);have HT5:=lh (HT.out.trans (CT.of_ext gc A1 x5));have z4:=HC5.out.x.cell C4.out;clear hE5 hK5 x5 d0 d1 hwi HC HT hltI;by_cases hm:mx = -1
   ·have hmb:(mx == -1)=true:=by simp[hm]
    go_upto_region 9 with fail
    obtain⟨mv,hmv⟩:∃mv:Int,mv=1:=⟨1,rfl⟩
    conv=>arg 4;rw[<-hmv]
    have HMV:Hid ((mv=1/\mx = -1)\/(mv=mx-(i:Int)/\mx≠-1)):=lh (.inl ⟨hmv,hm⟩);clear hmv;exact repL
   ·have hmb:(mx == -1)=false:=by simp[hm]
    go_upto_region 9 with fail
    obtain⟨mv,hmv⟩:∃mv,mv=mx-(i:Int):=⟨_,rfl⟩
    rw[<-hmv];have HMV:Hid ((mv=1/\mx = -1)\/(mv=mx-(i:Int)/\mx≠-1)):=lh (.inr ⟨hmv,hm⟩);clear hmv;exact repL
theorem ODz1 {P:Prop} (h:P:=by
 go_wp2_with fail
 exact bodyPost_end (v:=.tuple #[]) (by simp[results,Tryz.results182,go_sem]) rfl ⟨_,A4,c4,rfl,HC5.out,HT5.out,by simp,by simp;omega⟩):P:=h
theorem hwrite_any (bd:Nat)(wE:World)(base gc gq gw ga gr d B M:Nat)(hE:wE.heap.size<=base)(hbg:base<=gc)(IH:WrOk bd wE base gc gq gw ga gr d B)(hB:2<=B)(hbd:bd<=1000)(hM3:3<=M)
 (b o:Nat) (n:Nd) (hn:PnN bd wE b o d n) (hk:1<=n.ks.length->B*3<=M/\B*bd<=M) (hbl:b<wE.heap.size)
 (w:World) (A:Option Addr) (c:Nat) (hs:List Hin) (hc:CS wE base gc gq gw ga gr w A c hs) (hl:hs.length+M<=100000) :
 Calls Tryz.prog 182 #[.pointer (some ⟨b,o,none⟩),.pointer (some ⟨gq,0,none⟩),.pointer (some ⟨gw,0,none⟩),.pointer (some ⟨ga,0,none⟩),.pointer (some ⟨gr,0,none⟩)] w (RetW wE base gc gq gw ga gr w A hs M):=by
 have HN:=lh hn;have HC:=lh hc;have hwl:=hc.b.lt;obtain⟨c0,c1,c2,_,_,_,c6,_⟩:=(hn.ext hc.x).p.c8;have nb:b∉gc::bl A:=fun e=>by
  rcases List.mem_cons.1 e with e|e
  ·omega
  ·have:=OwnS.row hc.o b (bl.mem e);omega
 have hop:=hn.ok.op;have halt:=hn.ok.alt;have hone:=hn.ok.one;have hfew:=hn.ok.few;have hnn:=hn.ok.n;have hset:=lh hn.ok.set;have hkc:n.ks.length<=n.kc/\n.kc<=9223372036854775807:=⟨hn.le,by have:=hn.cap;unfold maxLen at this;omega⟩;have q0:w.cell? ⟨gq,0,none⟩=some (.func (Fn.func 178) #[] #[.pointer (some ⟨gc,0,none⟩)]):=hc.bx.wb.q.cell 0;have Dq:=lh (fun(w':World) (h:Kp (gc::bl A) w w')=>h.cell q0 (hc.nin hc.bx.wb.q de de));clear q0 hn hc;generalize n.op=op at *;go_enter Tryz.func182,Tryz.ntmps182;rcases hop with rfl|rfl|rfl|rfl|rfl|rfl|rfl
 ·go_wp2_with fail
  exact bodyPost_end (v:=.tuple #[]) (by simp[results,Tryz.results182,go_sem]) rfl ⟨hs,A,c,rfl,HC.out,CT.refl _ _ _,Nat.le_refl _,om⟩
 ·have d0:=Dq.out;have d1:=fun(w':World) (h:Kp (gc::bl A) w w')=>h.cell c1 nb;clear c1 c2 c6
  go_upto_region 2 with fail
  refine Xr.start (gc::bl A) kr ?_;refine Xtk 0 ?_
  iterate 4(refine Xtn ?_)
  clear d0 d1;refine Xcl 5 fun w1 hE1 hK1 K hKK=>?_;go_simp;refine(cloneS_any n.A n.c n.l w1 (HN.out.sl.ext (HC.out.x.trans hE1)) (by have:=hset.out.1;omega)).mono ?_;rintro e w2 ⟨A',c',rfl,ho2,x2⟩;refine hKK _ _ x2 ?_;clear hKK;refine ptm ?_;refine Xr.take 6 (some 19) (v:=.agg #[.int .i64 1,.int .i64 0,.int .i64 0,.int .i64 0,.slice A' n.l.length c']) rfl rfl dK (by rfl) (fun w' hk=>by go_simp) ?_;refine ptm ?_;refine Xsp 7 fun w3 hE3 hK3 K hKK=>?_;go_simp;have XW3:=(hE1.trans x2).trans hE3;refine(hput_cs wE w3 base gc gq gw ga gr hE hbg A c hs (HC.out.ext XW3) om (by have:=XW3.size;omega) ⟨1,0,0,0,A',c',n.l⟩ (by simp[Hin.wf,I64]) (OwnP.downZ (OwnS.ext ho2 hE3)) (fun s hs=>(HN.out.sl.rng s hs)) (setE_of hset.out)).mono ?_;rintro e w4 ⟨A4,c4,rfl,hc4,ht4⟩;refine hKK _ _ (WI_kp ht4.kp CQ.mem) (hK3.kpP ht4.kp CQ.mem) ?_;clear hKK;refine ptm ?_;refine Xdn fun w5 hE5 hK5=>?_;have HC5:=lh (hc4.ext hE5);have HT5:=lh (((CT.of_ext gc A XW3).trans ht4).trans (CT.of_ext gc A4 hE5));clear XW3 hE5 hK5 hE3 hK3 hE1 hK1 x2 ho2 hc4 ht4;exact ODz1
 ·have C2:Hid (wE.cell? ⟨b,o+2,none⟩=some (.slice n.K n.ks.length n.kc)):=lh HN.out.p.c8.2.2.1;have HT0:=lh (CT.refl gc A w);have HC0:=HC;have HL0:Hid (hs.length<=hs.length/\hs.length+2*0<=hs.length+B*0):=lh om;have HKK:=lh hk;have HFW:=lh hfew;clear c1 c6 halt hone hk Dq
  go_upto_region 7 with fail
  clear c0 c2 nb
  go_loopw [37] (fun v37 wr=>∃(i:Nat) (A1:Option Addr) (c1:Nat) (hs1:List Hin),v37=.int .i64 i/\i<=n.ks.length/\Hid (CS wE base gc gq gw ga gr wr A1 c1 hs1)/\Hid (CT gc A w A1 wr)/\Hid (hs.length<=hs1.length/\hs1.length+2*i<=hs.length+B*i)) (fun v _=>n.ks.length-(intOf v).toNat)
  case atStart=>exact⟨0,A,c,hs,rfl,Nat.zero_le _,HC0,HT0,HL0⟩
  case round=>
   clear HC HC0 HT0 HL0;obtain⟨i,A1,c1,hs1,rfl,hi,HC,HT,HL⟩:=hrel;by_cases hlt:i<n.ks.length
   ·have hltI:(i:Int)<n.ks.length:=om;obtain⟨kb,ko,eK,hkid⟩:=HN.out.kid i hlt;have HKID:=lh hkid;have z2:=HC.out.x.cell C2.out;rw[eK] at z2;clear eK hkid;have nb:b∉gc::bl A1:=fun e=>by
     have h1:=HC.out.b.lt;rcases List.mem_cons.1 e with e|e
     ·omega
     ·have:=OwnS.row HC.out.o b (bl.mem e);omega
    have z5:wr.cell? ⟨gw,0,none⟩=some (.func (Fn.func 182) #[] #[.pointer (some ⟨gq,0,none⟩),.pointer (some ⟨gw,0,none⟩),.pointer (some ⟨ga,0,none⟩),.pointer (some ⟨gr,0,none⟩)]):=HC.out.bx.wb.w.cell 0;have d0:=fun(w':World) (h:Kp (gc::bl A1) wr w')=>h.cell z5 (HC.out.nin HC.out.bx.wb.w de de);have d1:=fun(w':World) (h:Kp (gc::bl A1) wr w')=>h.cell z2 nb;clear z2 z5 nb
    go_upto_region 9 with fail
    refine Xr.start (gc::bl A1) kr ?_;refine Xtk 0 ?_
    iterate 6(refine Xtn ?_)
    clear d0 d1;refine Xsp 7 fun w3 hE3 hK3 K hKK=>?_;go_simp;refine(IH _ _ HKID.out w3 A1 c1 hs1 (HC.out.ext hE3) (by
     have:=HL.out;have:=HKK.out om;have:=mul_step B i;have:=mul_le2 (B:=B) (show i+1<=3 by have:=HFW.out;omega);omega)).mono ?_
    rintro e w4 ⟨hs4,A4,c4,rfl,hc4,ht4,hlo4,hhi4⟩;refine hKK _ _ (WI_kp ht4.kp CQ.mem) (hK3.kpP ht4.kp CQ.mem) ?_;clear hKK;refine ptm ?_;refine Xdn fun w5 hE5 hK5=>?_;have HC5:=lh (hc4.ext hE5);have HT5:=lh (HT.out.trans (((CT.of_ext gc A1 hE3).trans ht4).trans (CT.of_ext gc A4 hE5)));have HL5:Hid (hs.length<=hs4.length/\hs4.length+2*(i+1)<=hs.length+B*(i+1)):=lh (by have:=HL.out;have:=mul_step B i;omega);clear hE3 hK3 hE5 hK5 hc4 ht4 hlo4 hhi4 HC HT HL
    go_wp2_with fail
    go_roundw
    case rel=>exact⟨i+1,A4,c4,hs4,by go_num,om,HC5,HT5,HL5⟩
    case measure=>simp[intOf];omega
   ·have hle:¬(i:Int)<n.ks.length:=om;have HF:Hid (hs1.length+2<=hs.length+M):=lh (by
     have:=HL.out;have hf:=HFW.out;by_cases h0:i=0
     ·subst h0;omega
     ·have:=HKK.out om;have:=mul_le2 (B:=B) (show i<=3 by omega);omega)
    go_wp2_with fail
    exact bodyPost_end (v:=.tuple #[]) (by simp[results,Tryz.results182,go_sem]) rfl ⟨hs1,A1,c1,rfl,HC.out,HT.out,HL.out.1,HF.out⟩
 ·have h2:=halt rfl;obtain⟨m,hm⟩:∃m,n.ks.length=m+1:=⟨n.ks.length-1,om⟩;have hkk:=hk om;have HM:=lh hm;have HM2:Hid (1<=m/\m<=2/\m+1<=n.kc):=lh om;clear hm h2 halt hone hk;have q1:w.cell? ⟨ga,0,none⟩=some (.func (Fn.func 181) #[] #[.pointer (some ⟨gq,0,none⟩),.pointer (some ⟨gw,0,none⟩),.pointer (some ⟨gc,0,none⟩)]):=HC.out.bx.a.cell 0;have d0:=fun(w':World) (h:Kp (gc::bl A) w w')=>h.cell q1 (HC.out.nin HC.out.bx.a de de);have d1:=fun(w':World) (h:Kp (gc::bl A) w w')=>h.cell c2 nb;clear c1 c2 c6 q1
  go_upto_region 12 with fail
  refine Xr.start (gc::bl A) kr ?_;refine Xtk 0 ?_
  iterate 4(refine Xtn ?_)
  clear d0 d1;refine Xsp 5 fun w3 hE3 hK3 K hKK=>?_;go_simp;have HH:=halt_any bd wE base gc gq gw ga gr d B hE hbg IH hB n.K n.kc m (fun i hi=>HN.out.kid i (by have:=HM.out;omega)) (by have:=HM2.out;omega) (by have:=HM2.out;omega) w3 A c hs (HC.out.ext hE3) om
  rw[<-HM.out] at HH;refine HH.mono ?_;rintro e w4 ⟨hs4,A4,c4,rfl,hc4,ht4,hlo4,hhi4⟩;refine hKK _ _ (WI_kp ht4.kp CQ.mem) (hK3.kpP ht4.kp CQ.mem) ?_;clear hKK HH;refine ptm ?_;refine Xdn fun w5 hE5 hK5=>?_;have HC5:=lh (hc4.ext hE5);have HT5:=lh (((CT.of_ext gc A hE3).trans ht4).trans (CT.of_ext gc A4 hE5));clear hE5 hK5 hE3 hK3 hc4 ht4
  go_wp2_with fail
  exact bodyPost_end (v:=.tuple #[]) (by simp[results,Tryz.results182,go_sem]) rfl ⟨hs4,A4,c4,rfl,HC5.out,HT5.out,hlo4,om⟩
 ·have hkk:=hk (hone (.inl rfl));have q1:w.cell? ⟨gr,0,none⟩=some (.func (Fn.func 179) #[] #[.pointer (some ⟨gw,0,none⟩),.pointer (some ⟨gq,0,none⟩),.pointer (some ⟨gc,0,none⟩)]):=HC.out.bx.r.cell 0;have HR:=lh (hrep_any bd wE base gc gq gw ga gr d B M hE hbg IH hB hbd hkk.1 hkk.2 b o n HN.out (hone (.inl rfl)) hbl w A c hs HC.out hl);clear c1 c2 c6 halt hone hk hkk
  go_wp2_with (go_at_call 179;refine HR.out.mono ?_;rintro e w4 ⟨hs4,A4,c4,rfl,hc4,ht4,hlo4,hhi4⟩)
  exact bodyPost_end (v:=.tuple #[]) (by simp[results,Tryz.results182,go_sem]) rfl ⟨hs4,A4,c4,rfl,hc4,ht4,hlo4,hhi4⟩
 ·have hkk:=hk (hone (.inr rfl));have h1k:0<n.ks.length:=hone (.inr rfl);obtain⟨kb,ko,eK,hkid⟩:=HN.out.kid 0 h1k;rw[Nat.zero_mul,Nat.add_zero] at hkid;have HKID:=lh hkid;have C2:Hid (wE.cell? ⟨b,o+2,none⟩=some (.slice (some ⟨kb,ko,none⟩) n.ks.length n.kc)):=lh (by rw[<-eK];exact HN.out.p.c8.2.2.1);have C6:=lh HN.out.p.c8.2.2.2.2.2.2.1;have v1:IntKind.i64.wrap (2*n.n)=2*n.n:=wj;have v2:IntKind.i64.wrap (2*n.n-2)=2*n.n-2:=wj;have v3:IntKind.i64.wrap (2*n.n-1)=2*n.n-1:=wj;have d0:=Dq.out;have d1:=fun(w':World) (h:Kp (gc::bl A) w w')=>h.cell c6 nb;clear c1 c2 c6 halt hone hk hkid eK
  go_upto_region 14 with fail
  refine Xr.start (gc::bl A) kr ?_;refine Xtk 0 ?_
  iterate 7(refine Xtn ?_)
  clear d0 d1;refine Xsp 8 fun w3 hE3 hK3 K hKK=>?_;go_simp;refine(hput_cs wE w3 base gc gq gw ga gr hE hbg A c hs (HC.out.ext hE3) om (by have:=hE3.size;omega) ⟨4,0,0,2*n.n-2,none,0,[]⟩ (by simp only[Hin.wf,I64];omega) (OwnP.nil _ _) si (SetE.nil _)).mono ?_;rintro e w4 ⟨A4,c4,rfl,hc4,ht4⟩;refine hKK _ _ (WI_kp ht4.kp CQ.mem) (hK3.kpP ht4.kp CQ.mem) ?_;clear hKK;refine ptm ?_;refine Xdn fun w5 hE5 hK5=>?_;have HC5:=lh (hc4.ext hE5);have HT5:=lh (((CT.of_ext gc A hE3).trans ht4).trans (CT.of_ext gc A4 hE5));clear hE5 hK5 hE3 hK3 hc4 ht4;obtain⟨hs5,e5⟩:∃l,l=hs++[⟨4,0,0,2*n.n-2,none,0,[]⟩]:=⟨_,rfl⟩
  rw[<-e5] at HC5;have HL5:Hid (hs5.length=hs.length+1):=lh (by rw[e5];simp);clear e5;have nb5:b∉gc::bl A4:=fun e=>by
   rcases List.mem_cons.1 e with e|e
   ·omega
   ·have:=OwnS.row HC5.out.o b (bl.mem e);omega
  have z5:w5.cell? ⟨gw,0,none⟩=some (.func (Fn.func 182) #[] #[.pointer (some ⟨gq,0,none⟩),.pointer (some ⟨gw,0,none⟩),.pointer (some ⟨ga,0,none⟩),.pointer (some ⟨gr,0,none⟩)]):=HC5.out.bx.wb.w.cell 0;have z2:=HC5.out.x.cell C2.out;have d0:=fun(w':World) (h:Kp (gc::bl A4) w5 w')=>h.cell z5 (HC5.out.nin HC5.out.bx.wb.w de de);have d1:=fun(w':World) (h:Kp (gc::bl A4) w5 w')=>h.cell z2 nb5;clear z5 z2 nb5
  go_upto_region 15 with fail
  refine Xr.start (gc::bl A4) kr ?_;refine Xtk 0 ?_
  iterate 5(refine Xtn ?_)
  clear d0 d1;refine Xsp 6 fun w6 hE6 hK6 K hKK=>?_;go_simp;refine(IH _ _ HKID.out w6 A4 c4 hs5 (HC5.out.ext hE6) (by have:=HL5.out;omega)).mono ?_;rintro e w7 ⟨hs7,A7,c7,rfl,hc7,ht7,hlo7,hhi7⟩;refine hKK _ _ (WI_kp ht7.kp CQ.mem) (hK6.kpP ht7.kp CQ.mem) ?_;clear hKK;refine ptm ?_;refine Xdn fun w8 hE8 hK8=>?_;have HC8:=lh (hc7.ext hE8);have HT8:=lh (HT5.out.trans (((CT.of_ext gc A4 hE6).trans ht7).trans (CT.of_ext gc A7 hE8)));have HL8:=lh (And.intro hlo7 hhi7);clear hE8 hK8 hE6 hK6 hc7 ht7 hlo7 hhi7 HC5 HT5;have nb8:b∉gc::bl A7:=fun e=>by
   rcases List.mem_cons.1 e with e|e
   ·omega
   ·have:=OwnS.row HC8.out.o b (bl.mem e);omega
  have q8:w8.cell? ⟨gq,0,none⟩=some (.func (Fn.func 178) #[] #[.pointer (some ⟨gc,0,none⟩)]):=HC8.out.bx.wb.q.cell 0;have z6:=HC8.out.x.cell C6.out;have d0:=fun(w':World) (h:Kp (gc::bl A7) w8 w')=>h.cell q8 (HC8.out.nin HC8.out.bx.wb.q de de);have d1:=fun(w':World) (h:Kp (gc::bl A7) w8 w')=>h.cell z6 nb8;clear q8 z6 nb8
  go_upto_region 16 with fail
  refine Xr.start (gc::bl A7) kr ?_;refine Xtk 0 ?_
  iterate 7(refine Xtn ?_)
  clear d0 d1;refine Xsp 8 fun w9 hE9 hK9 K hKK=>?_;go_simp;refine(hput_cs wE w9 base gc gq gw ga gr hE hbg A7 c7 hs7 (HC8.out.ext hE9) (by have:=HL8.out;have:=HL5.out;omega) (by have:=(HC8.out.ext hE9).b.lt;omega) ⟨4,0,0,2*n.n-1,none,0,[]⟩ (by simp only[Hin.wf,I64];omega) (OwnP.nil _ _) si (SetE.nil _)).mono ?_;rintro e wa ⟨Aa,ca,rfl,hca,hta⟩;refine hKK _ _ (WI_kp hta.kp CQ.mem) (hK9.kpP hta.kp CQ.mem) ?_;clear hKK;refine ptm ?_;refine Xdn fun wb hEb hKb=>?_;have HCb:=lh (hca.ext hEb);have HTb:=lh (HT8.out.trans (((CT.of_ext gc A7 hE9).trans hta).trans (CT.of_ext gc Aa hEb)));clear hEb hKb hE9 hK9 hca hta
  go_wp2_with fail
  exact bodyPost_end (v:=.tuple #[]) (by simp[results,Tryz.results182,go_sem]) rfl ⟨_,Aa,ca,rfl,HCb.out,HTb.out,by have:=HL8.out;have:=HL5.out;simp;omega,by have:=HL8.out;have:=HL5.out;simp;omega⟩
 ·have d0:=Dq.out;have d1:=fun(w':World) (h:Kp (gc::bl A) w w')=>h.cell c6 nb;clear c1 c2 c6 halt hone hk
  go_upto_region 4 with fail
  refine Xr.start (gc::bl A) kr ?_;refine Xtk 0 ?_
  iterate 5(refine Xtn ?_)
  clear d0 d1;refine Xsp 6 fun w3 hE3 hK3 K hKK=>?_;go_simp;refine(hput_cs wE w3 base gc gq gw ga gr hE hbg A c hs (HC.out.ext hE3) om (by have:=hE3.size;omega) ⟨5,0,0,n.n,none,0,[]⟩ (by simp only[Hin.wf,I64];omega) (OwnP.nil _ _) si (SetE.nil _)).mono ?_;rintro e w4 ⟨A4,c4,rfl,hc4,ht4⟩;refine hKK _ _ (WI_kp ht4.kp CQ.mem) (hK3.kpP ht4.kp CQ.mem) ?_;clear hKK;refine ptm ?_;refine Xdn fun w5 hE5 hK5=>?_;have HC5:=lh (hc4.ext hE5);have HT5:=lh (((CT.of_ext gc A hE3).trans ht4).trans (CT.of_ext gc A4 hE5));clear hE5 hK5 hE3 hK3 hc4 ht4;exact ODz1
end
section
open Go.RowKit
theorem PnAt.lt {bd:Nat}{w:World}{b o d:Nat}(h:PnAt bd w b o d):b<w.heap.size:=by
 obtain⟨n,h1,_⟩:=h;exact World.block_lt_of_cell? _ _ h1.c8.1
theorem hwrite_all (bd:Nat)(wE:World)(base gc gq gw ga gr:Nat)(hE:wE.heap.size<=base)(hbg:base<=gc)(hbd3:3<=bd)(hbd:bd<=1000):∀d,WrOk bd wE base gc gq gw ga gr d (lenB bd d)
 | 0=>fun b o hp=>by obtain⟨e,he⟩:=hp.pos;omega
 | 1=>fun b o hp w A c hs hc hl=>by
  obtain⟨n,hn⟩:=hp.node;have IH:WrOk bd wE base gc gq gw ga gr 0 2:=fun b o hp=>by obtain⟨e,he⟩:=hp.pos;omega
  refine hwrite_any bd wE base gc gq gw ga gr 0 2 (lenB bd 1) hE hbg IH om hbd (by simp[lenB];omega) b o n hn (fun h1=>?_) hp.lt w A c hs hc hl;obtain⟨kb,ko,_,hk⟩:=hn.kid 0 om;obtain⟨e,he⟩:=hk.pos;omega
 | d+2=>fun b o hp w A c hs hc hl=>by
  obtain⟨n,hn⟩:=hp.node;have hB:=(lenB_pos hbd3 (d+1)).2 om;have h3:lenB bd (d+1)*3<=lenB bd (d+2):=Nat.mul_le_mul_left _ hbd3;exact hwrite_any bd wE base gc gq gw ga gr (d+1) (lenB bd (d+1)) (lenB bd (d+2)) hE hbg (hwrite_all bd wE base gc gq gw ga gr hE hbg hbd3 hbd (d+1)) om hbd om b o n hn (fun _=>⟨h3,Nat.le_refl _⟩) hp.lt w A c hs hc hl
end
section
open Go.RowKit
attribute [local go_sem ↓] Go.wp_at_zero Go.wp_at_succ
def RetCo2 (B:Nat)(w:World)(e:Ending)(w':World):Prop:=∃A c hs,e=.returned (.slice A hs.length c)/\hs.length+2<=B/\OwnS w' w.heap.size 126 5 A hs.length c (flatN hs)/\(∀h∈hs,h.wf/\OwnP w' 0 h.A h.c h.l/\(∀s∈h.l,I64 s.1/\I64 s.2)/\SetE rimE h.l)/\Ext w w'
theorem hcode_any (bd d:Nat)(hbd3:3<=bd)(hbd:bd<=1000)(hB:lenB bd d<=100000)(w:World)(b o:Nat)(hp:PnAt bd w b o d) :
 Calls Tryz.prog 147 #[.pointer (some ⟨b,o,none⟩)] w (RetCo2 (lenB bd d) w):=by
 have HP:=lh hp;clear hp;have X1:=Ext.alloc w (.cells #[.slice none 0 0] 46);have B1:=Blk.new w 46 #[.slice none 0 0];go_enter Tryz.func147,Tryz.ntmps147
 go_upto_region 2 with fail
 obtain⟨gc,hgc⟩:∃g,g=w.heap.size:=⟨_,rfl⟩
 rw[<-hgc] at B1 ⊢;have HGC:=lh hgc;clear hgc;generalize w.alloc (.cells #[.slice none 0 0] 46)=w1 at *;have B2:=Blk.new w1 283 #[.nilFunc];have hst:=store_blkF B2 178 #[.pointer (some ⟨gc,0,none⟩)];have X2:=Ext.alloc w1 (.cells #[.func (Fn.func 178) #[] #[.pointer (some ⟨gc,0,none⟩)]] 283);have B3:Blk (w1.alloc (.cells #[.func (Fn.func 178) #[] #[.pointer (some ⟨gc,0,none⟩)]] 283)) w1.heap.size 283 #[.func (Fn.func 178) #[] #[.pointer (some ⟨gc,0,none⟩)]]:=Blk.new w1 _ _
 go_upto_region 3 with fail
 generalize w1.alloc (.cells #[.func (Fn.func 178) #[] #[.pointer (some ⟨gc,0,none⟩)]] 283)=w2 at *;clear hst B2;obtain⟨gq,hgq⟩:∃g,g=w1.heap.size:=⟨_,rfl⟩
 rw[<-hgq] at B3 ⊢;clear hgq;have X4:=Ext.alloc w2 (.cells #[.nilFunc] 284);have B4:=Blk.new w2 284 #[.nilFunc]
 go_upto_region 4 with fail
 obtain⟨gw,hgw⟩:∃g,g=w2.heap.size:=⟨_,rfl⟩
 rw[<-hgw] at B4 ⊢;have HGW:=lh hgw;clear hgw;generalize w2.alloc (.cells #[.nilFunc] 284)=w3 at *;have B5:=Blk.new w3 284 #[.nilFunc];have hst:=store_blkF B5 179 #[.pointer (some ⟨gw,0,none⟩),.pointer (some ⟨gq,0,none⟩),.pointer (some ⟨gc,0,none⟩)];have X5:=Ext.alloc w3 (.cells #[.func (Fn.func 179) #[] #[.pointer (some ⟨gw,0,none⟩),.pointer (some ⟨gq,0,none⟩),.pointer (some ⟨gc,0,none⟩)]] 284);have Br:Blk (w3.alloc (.cells #[.func (Fn.func 179) #[] #[.pointer (some ⟨gw,0,none⟩),.pointer (some ⟨gq,0,none⟩),.pointer (some ⟨gc,0,none⟩)]] 284)) w3.heap.size 284 #[.func (Fn.func 179) #[] #[.pointer (some ⟨gw,0,none⟩),.pointer (some ⟨gq,0,none⟩),.pointer (some ⟨gc,0,none⟩)]]:=Blk.new w3 _ _;have HWLT:=lh B4.lt
 go_upto_region 5 with fail
 generalize w3.alloc (.cells #[.func (Fn.func 179) #[] #[.pointer (some ⟨gw,0,none⟩),.pointer (some ⟨gq,0,none⟩),.pointer (some ⟨gc,0,none⟩)]] 284)=w4 at *;clear hst B5;obtain⟨gr,hgr⟩:∃g,g=w3.heap.size:=⟨_,rfl⟩
 rw[<-hgr] at Br ⊢;have hrw:Hid (gr≠gw):=lh (by have:=HWLT.out;omega);clear hgr;have B6:=Blk.new w4 286 #[.nilFunc];have hst:=store_blkF B6 181 #[.pointer (some ⟨gq,0,none⟩),.pointer (some ⟨gw,0,none⟩),.pointer (some ⟨gc,0,none⟩)];have X6:=Ext.alloc w4 (.cells #[.func (Fn.func 181) #[] #[.pointer (some ⟨gq,0,none⟩),.pointer (some ⟨gw,0,none⟩),.pointer (some ⟨gc,0,none⟩)]] 286);have Ba:Blk (w4.alloc (.cells #[.func (Fn.func 181) #[] #[.pointer (some ⟨gq,0,none⟩),.pointer (some ⟨gw,0,none⟩),.pointer (some ⟨gc,0,none⟩)]] 286)) w4.heap.size 286 #[.func (Fn.func 181) #[] #[.pointer (some ⟨gq,0,none⟩),.pointer (some ⟨gw,0,none⟩),.pointer (some ⟨gc,0,none⟩)]]:=Blk.new w4 _ _
 go_upto_region 6 with fail
 generalize w4.alloc (.cells #[.func (Fn.func 181) #[] #[.pointer (some ⟨gq,0,none⟩),.pointer (some ⟨gw,0,none⟩),.pointer (some ⟨gc,0,none⟩)]] 286)=w5 at *;clear hst B6;obtain⟨ga,hga⟩:∃g,g=w4.heap.size:=⟨_,rfl⟩
 rw[<-hga] at Ba ⊢;clear hga;have XX:=lh (X5.trans X6);have B7:=B4.ext XX.out;have Br5:=Br.ext X6;have hst:=store_blkF B7 182 #[.pointer (some ⟨gq,0,none⟩),.pointer (some ⟨gw,0,none⟩),.pointer (some ⟨ga,0,none⟩),.pointer (some ⟨gr,0,none⟩)];have XE2:=lh ((X1.trans X2).trans (X4.trans XX.out));have hlow:Hid (w.heap.size<=gw):=lh (by have h1:=X1.size;have h2:=X2.size;have h3:=HGW.out;omega);have X7:=lh (XE2.out.setNew (p:=⟨gw,0,none⟩) hlow.out (.func (Fn.func 182) #[] #[.pointer (some ⟨gq,0,none⟩),.pointer (some ⟨gw,0,none⟩),.pointer (some ⟨ga,0,none⟩),.pointer (some ⟨gr,0,none⟩)]));have B8:Blk (w5.setCell ⟨gw,0,none⟩ (.func (Fn.func 182) #[] #[.pointer (some ⟨gq,0,none⟩),.pointer (some ⟨gw,0,none⟩),.pointer (some ⟨ga,0,none⟩),.pointer (some ⟨gr,0,none⟩)])) gw 284 #[.func (Fn.func 182) #[] #[.pointer (some ⟨gq,0,none⟩),.pointer (some ⟨gw,0,none⟩),.pointer (some ⟨ga,0,none⟩),.pointer (some ⟨gr,0,none⟩)]]:=Blk.set B7 0 _;have Bc:=((((B1.ext X2).ext X4).ext XX.out).far (Blk.neT (((B1.ext X2).ext X4).ext XX.out) B7 de) (p:=⟨gw,0,none⟩) (.func (Fn.func 182) #[] #[.pointer (some ⟨gq,0,none⟩),.pointer (some ⟨gw,0,none⟩),.pointer (some ⟨ga,0,none⟩),.pointer (some ⟨gr,0,none⟩)]));have Bq:=(((B3.ext X4).ext XX.out).far (Blk.neT ((B3.ext X4).ext XX.out) B7 de) (p:=⟨gw,0,none⟩) (.func (Fn.func 182) #[] #[.pointer (some ⟨gq,0,none⟩),.pointer (some ⟨gw,0,none⟩),.pointer (some ⟨ga,0,none⟩),.pointer (some ⟨gr,0,none⟩)]));have Br6:=Br5.far hrw.out (p:=⟨gw,0,none⟩) (.func (Fn.func 182) #[] #[.pointer (some ⟨gq,0,none⟩),.pointer (some ⟨gw,0,none⟩),.pointer (some ⟨ga,0,none⟩),.pointer (some ⟨gr,0,none⟩)])
 have Ba6:=Ba.far (Blk.neT Ba B7 de) (p:=⟨gw,0,none⟩) (.func (Fn.func 182) #[] #[.pointer (some ⟨gq,0,none⟩),.pointer (some ⟨gw,0,none⟩),.pointer (some ⟨ga,0,none⟩),.pointer (some ⟨gr,0,none⟩)])
 go_upto_region 7 with fail
 generalize w5.setCell ⟨gw,0,none⟩ (.func (Fn.func 182) #[] #[.pointer (some ⟨gq,0,none⟩),.pointer (some ⟨gw,0,none⟩),.pointer (some ⟨ga,0,none⟩),.pointer (some ⟨gr,0,none⟩)])=w6 at *;clear hst B7 B1 B3 B4 X1 X2 X4 X5 X6 Br Br5 Ba;have c5:w6.cell? ⟨gw,0,none⟩=some (.func (Fn.func 182) #[] #[.pointer (some ⟨gq,0,none⟩),.pointer (some ⟨gw,0,none⟩),.pointer (some ⟨ga,0,none⟩),.pointer (some ⟨gr,0,none⟩)]):=B8.cell 0;have HW:=lh (hwrite_all bd w w.heap.size gc gq gw ga gr (Nat.le_refl _) (by have:=HGC.out;omega) hbd3 hbd d b o HP.out w6 none 0 [] ⟨Bc,OwnS.nil _ _ _ _,by simp,⟨⟨Bq,B8⟩,Br6,Ba6⟩,X7.out⟩ (by simpa using hB));clear Bq B8 Bc Br6 Ba6
 go_upto_region 8 with(go_at_call 182;refine HW.out.mono ?_;rintro e w7 ⟨hs,A,c,rfl,hcs,hct,hlo,hhi⟩)
 have c8:w7.cell? ⟨gc,0,none⟩=some (.slice A hs.length c):=hcs.b.cell 0;have HH:=lh hcs;have HL:Hid (hs.length+2<=lenB bd d):=lh (by simpa using hhi);clear hcs hct hlo hhi HW
 go_wp2_with fail
 go_ret
 exact⟨A,c,hs,rfl,HL.out,HH.out.o,HH.out.it,HH.out.x⟩
structure VG (caps top:Int)(w:World)(gs gg gp gt gw:Nat)(k:Nat):Prop where
 s:Blk w gs 3 #[.int .i64 k]
 g:∃x,Blk w gg 4 #[.bool x]
 p:∃cs,Blk w gp 28 cs/\cs[8]? = some (.int .i64 caps)
 t:Blk w gt 3 #[.int .i64 top]
 f:Blk w gw 281 #[.func (Fn.func 174) #[] #[.pointer (some ⟨gs,0,none⟩),.pointer (some ⟨gg,0,none⟩),.pointer (some ⟨gp,0,none⟩),.pointer (some ⟨gt,0,none⟩),.pointer (some ⟨gw,0,none⟩)]]
 ne:gs≠gt
section
variable {caps top:Int} {w w':World} {gs gg gp gt gw k:Nat}
theorem VG.ext (h:VG caps top w gs gg gp gt gw k)(x:Ext w w'):VG caps top w' gs gg gp gt gw k:=⟨h.s.ext x,by obtain⟨y,h1⟩:=h.g;exact⟨y,h1.ext x⟩,by obtain⟨cs,h1,h2⟩:=h.p;exact⟨cs,h1.ext x,h2⟩,h.t.ext x,h.f.ext x,h.ne⟩
theorem VG.setS (h:VG caps top w gs gg gp gt gw k):VG caps top (w.setCell ⟨gs,0,none⟩ (.int .i64 ((k:Int)+1))) gs gg gp gt gw (k+1):=by
 obtain⟨cs,h1,h2⟩:=h.p;obtain⟨y,h3⟩:=h.g;exact⟨Blk.set h.s 0 (.int .i64 ((k:Int)+1)),⟨y,h3.far (Blk.neT h3 h.s de) _⟩,⟨cs,h1.far (Blk.neT h1 h.s de) _,h2⟩,h.t.far h.ne.symm _,h.f.far (Blk.neT h.f h.s de) _,h.ne⟩
theorem VG.setG (h:VG caps top w gs gg gp gt gw k)(z:Bool):VG caps top (w.setCell ⟨gg,0,none⟩ (.bool z)) gs gg gp gt gw k:=by
 obtain⟨cs,h1,h2⟩:=h.p;obtain⟨y,h3⟩:=h.g;exact⟨h.s.far (Blk.neT h.s h3 de) _,⟨z,Blk.set h3 0 (.bool z)⟩,⟨cs,h1.far (Blk.neT h1 h3 de) _,h2⟩,h.t.far (Blk.neT h.t h3 de) _,h.f.far (Blk.neT h.f h3 de) _,h.ne⟩
end
def RetVg (caps top:Int)(gs gg gp gt gw:Nat)(w:World)(e:Ending)(w':World):Prop:=∃(x:Bool) (k:Nat),e=.returned (.bool x)/\VG caps top w' gs gg gp gt gw k/\k<=257/\(x=true->k<=256)/\KpP (VQ gs gg) w w'
theorem vldRest {P:Prop}(h:P:=by
 have X3:=lh (HXK w w3 x0 K3.out);have c2:=(HN.out.ext X3.out).p.c8.2.2.1;have hwd:IntKind.i64.wrap (dp+1)=dp+1:=wj
 go_upto_region 6 with fail
 clear c2
 go_loopw [32] (fun v wr=>∃i kk:Nat,v=.int .i64 i/\i<=n.ks.length/\kk<=256/\Hid (VG caps top wr gs gg gp gt gw kk)/\Hid (KpP (VQ gs gg) w wr)) (fun v _=>n.ks.length-(intOf v).toNat)
 case atStart=>exact⟨0,k+1,rfl,Nat.zero_le _,om,V3,K3⟩
 case round=>
  clear V3 K3 X3;obtain⟨i,kk,rfl,hi,hkk,VR,KR⟩:=hrel;have XR:=lh (HXK w wr x0 KR.out);by_cases hlt:i<n.ks.length
  ·obtain⟨kb,ko,eK,HKID⟩:=HN.out.kid i hlt;have cr:=(HN.out.ext XR.out).p.c8.2.2.1;rw[eK] at cr;have w0:=VR.out.f.cell 0;have w0:wr.cell? ⟨gw,0,none⟩=some (.func (Fn.func 174) #[] #[.pointer (some ⟨gs,0,none⟩),.pointer (some ⟨gg,0,none⟩),.pointer (some ⟨gp,0,none⟩),.pointer (some ⟨gt,0,none⟩),.pointer (some ⟨gw,0,none⟩)]):=w0;have HK:=lh HKID;have nw:gw∉[gs,gg]:=fun e=>by
    obtain⟨y,hy⟩:=VR.out.g;simp only[List.mem_cons,List.not_mem_nil,or_false] at e;rcases e with e|e
    ·exact Blk.neT VR.out.f VR.out.s de e
    ·exact Blk.neT VR.out.f hy de e
   have nb:b∉[gs,gg]:=fun e=>by
    have hb:b<wB.heap.size:=World.block_lt_of_cell? _ _ (HN.out.p.c8.1);simp only[List.mem_cons,List.not_mem_nil,or_false] at e;omega
   have d0:=fun(w':World) (h:Kp [gs,gg] wr w')=>h.cell w0 nw;have d1:=fun(w':World) (h:Kp [gs,gg] wr w')=>h.cell cr nb;clear w0 cr nw nb HKID eK
   go_upto_region 8 with fail
   refine Xr.start [gs,gg] kr ?_;refine Xtk 0 ?_
   iterate 8(refine Xtn ?_)
   clear d0 d1;refine Xsp 9 fun w5 hE5 hK5 K hKK=>?_;go_simp;refine(IH w5 (HXK wr w5 XR.out hK5.vq) kk (VR.out.ext hE5) hkk kb (ko+i*8) HK.out (dp+1) om).mono ?_;rintro e w6 ⟨z,k6,rfl,v6,hk6,hz6,kp6⟩;refine hKK _ _ (WI_kp kp6 (by simp[VQ])) (hK5.kpP kp6 (by simp[VQ])) ?_;clear hKK;refine ptm ?_;refine Xtk 10 ?_;refine Xdn fun w7 hE7 hK7=>?_;have V7:=lh (v6.ext hE7);have K7:=lh (KR.out.trans hK7.vq);clear hE5 hK5 v6 kp6 hE7 hK7
   cases z with
   | true=>
    go_wp2_with fail
    go_roundw
    case rel=>exact⟨i+1,k6,by go_num,om,hz6 rfl,V7,K7⟩
    case measure=>simp[intOf];omega
   | false=>
    go_wp2_with fail
    go_ret
    exact⟨false,k6,rfl,V7.out,hk6,by simp,K7.out⟩
  ·have hle:(n.ks.length:Int)<=i:=om
   go_wp2_with fail
   go_ret
   exact⟨true,kk,rfl,VR.out,om,fun _=>hkk,KR.out⟩):P:=h
theorem valid1_step (bd:Nat)(wB:World)(caps top:Int)(ht:255<=top/\top<=1114111)(gs gg gp gt gw:Nat)(hgs:wB.heap.size<=gs/\wB.heap.size<=gg)(d:Nat)
 (IH:∀(w:World) (_:Ext wB w) (k:Nat) (_:VG caps top w gs gg gp gt gw k) (_:k<=256) (b o:Nat) (_:PnAt bd wB b o d) (dp:Int) (_:0<=dp/\dp<=100),
  Calls Tryz.prog 174 #[.pointer (some ⟨b,o,none⟩),.int .i64 dp,.pointer (some ⟨gs,0,none⟩),.pointer (some ⟨gg,0,none⟩),.pointer (some ⟨gp,0,none⟩),.pointer (some ⟨gt,0,none⟩),.pointer (some ⟨gw,0,none⟩)] w (RetVg caps top gs gg gp gt gw w))
 (w:World) (x0:Ext wB w) (k:Nat) (hv:VG caps top w gs gg gp gt gw k) (hk:k<=256) (b o:Nat) (hp:PnAt bd wB b o (d+1)) (dp:Int) (hd:0<=dp/\dp<=100) :
 Calls Tryz.prog 174 #[.pointer (some ⟨b,o,none⟩),.int .i64 dp,.pointer (some ⟨gs,0,none⟩),.pointer (some ⟨gg,0,none⟩),.pointer (some ⟨gp,0,none⟩),.pointer (some ⟨gt,0,none⟩),.pointer (some ⟨gw,0,none⟩)] w (RetVg caps top gs gg gp gt gw w):=by
 obtain⟨n,hn⟩:=hp.node;have HN:=lh hn;have hcap:n.ks.length<=n.kc/\n.kc<=9223372036854775807:=⟨hn.le,by have:=hn.cap;unfold maxLen at this;omega⟩;have hfew:n.ks.length<=3:=hn.ok.few;have s0:w.cell? ⟨gs,0,none⟩=some (.int .i64 k):=hv.s.cell 0;have s1:=hv.s.frz 0;have V1:=lh hv.setS;have K1:=lh ((KpP.refl (VQ gs gg) w).set (x:=⟨gs,0,none⟩) (.inl (.inl rfl)) (.int .i64 ((k:Int)+1)));have HXK:=fun(W W':World) (x:Ext wB W) (kk:KpP (VQ gs gg) W W')=>Ext.kp x kk (fun i hi=>by rcases hi with rfl|rfl;exact hgs.1;exact hgs.2);clear hn hp hv;go_enter Tryz.func174,Tryz.ntmps174
 go_upto_region 2 with fail
 generalize w.setCell ⟨gs,0,none⟩ (.int .i64 ((k:Int)+1))=w1 at *;have X1:=lh (HXK w w1 x0 K1.out);clear s0 s1;have s0:w1.cell? ⟨gs,0,none⟩=some (.int .i64 ((k:Int)+1)):=V1.out.s.cell 0;by_cases h256:(256:Int)<(k:Int)+1
 ·go_wp2_with fail
  go_ret
  exact⟨false,k+1,rfl,V1.out,om,by simp,K1.out⟩
 by_cases h24:(24:Int)<dp
 ·go_wp2_with fail
  go_ret
  exact⟨false,k+1,rfl,V1.out,om,by simp,K1.out⟩
 obtain⟨cs,hp,hp8⟩:=V1.out.p;obtain⟨y,hy⟩:=V1.out.g;have g0:w1.cell? ⟨gg,0,none⟩=some (.bool y):=hy.cell 0;have g1:=hy.frz 0;have t0:w1.cell? ⟨gt,0,none⟩=some (.int .i64 top):=V1.out.t.cell 0;have p8:w1.cell? ⟨gp,8,none⟩=some (.int .i64 caps):=by rw[hp.cell 8];exact hp8
 clear hp hp8
 go_upto_region 4 with fail
 have HF:=lh (hformed_any bd w1 b o d n (HN.out.ext X1.out) caps top ht);have HG2:=fun(w':World) (x:Ext w1 w')=>lh (And.intro ((hy.ext x).cell 0) ((hy.ext x).frz 0));clear hy
 cases y with
 | true=>
  go_upto_region 5 with(go_at_call 175;refine HF.out.mono ?_;rintro e w2 ⟨z,rfl,x2⟩;have q0:=(HG2 w2 x2).out.1;have q1:=(HG2 w2 x2).out.2)
  have V3:=lh ((V1.out.ext x2).setG z);have K3:=lh ((K1.out.thenExt x2).trans ((KpP.refl (VQ gs gg) w2).set (x:=⟨gg,0,none⟩) (.inl (.inr rfl)) (.bool z)));generalize w2.setCell ⟨gg,0,none⟩ (.bool z)=w3 at *;clear q0 q1 x2 HF HG2 g0 g1 t0 p8 s0;exact vldRest
 | false=>
  go_upto_region 5 with fail
  have V3:=lh (V1.out.setG false);have K3:=lh (K1.out.trans ((KpP.refl (VQ gs gg) w1).set (x:=⟨gg,0,none⟩) (.inl (.inr rfl)) (.bool false)));generalize w1.setCell ⟨gg,0,none⟩ (.bool false)=w3 at *;clear HF HG2 g0 g1 t0 p8 s0;exact vldRest
theorem valid1_all (bd:Nat)(wB:World)(caps top:Int)(ht:255<=top/\top<=1114111)(gs gg gp gt gw:Nat)(hgs:wB.heap.size<=gs/\wB.heap.size<=gg):∀(d:Nat) (w:World) (_:Ext wB w) (k:Nat) (_:VG caps top w gs gg gp gt gw k) (_:k<=256) (b o:Nat) (_:PnAt bd wB b o d) (dp:Int) (_:0<=dp/\dp<=100),
 Calls Tryz.prog 174 #[.pointer (some ⟨b,o,none⟩),.int .i64 dp,.pointer (some ⟨gs,0,none⟩),.pointer (some ⟨gg,0,none⟩),.pointer (some ⟨gp,0,none⟩),.pointer (some ⟨gt,0,none⟩),.pointer (some ⟨gw,0,none⟩)] w (RetVg caps top gs gg gp gt gw w)
 | 0,w,_,k,_,_,b,o,hp,dp,_=>by obtain⟨e,he⟩:=hp.pos;omega
 | d+1,w,x0,k,hv,hk,b,o,hp,dp,hd=>valid1_step bd wB caps top ht gs gg gp gt gw hgs d (valid1_all bd wB caps top ht gs gg gp gt gw hgs d) w x0 k hv hk b o hp dp hd
def patN (n:Nd)(caps:Int)(rn:Bool):Array Value:=#[.int .i64 n.op,.slice n.A n.l.length n.c,.slice n.K n.ks.length n.kc,.int .i64 n.mn,.int .i64 n.mx,.int .i64 n.md,.int .i64 n.n,.bool n.neg,.int .i64 caps,.bool rn]
theorem patN_pn {bd d:Nat}{S:Nat->Prop}{w w':World}{gp:Nat}{n:Nd}{caps:Int}{rn:Bool}(ht:TreeAt bd S w d n.val)(x:Ext w w')(h:Blk w' gp 28 (patN n caps rn)):PnAt bd w' gp 0 d:=by
 refine⟨n,fun i hi=>?_,(ht.imp (fun _ _ _=>trivial)).ext x⟩;have hi8:i<8:=by simpa[Nd.cs] using hi
 rw[Nat.zero_add,h.cell i];have:i=0\/i=1\/i=2\/i=3\/i=4\/i=5\/i=6\/i=7:=om;rcases this with rfl|rfl|rfl|rfl|rfl|rfl|rfl|rfl<;>rfl
def topI (rn:Bool):Int:=if rn=true then 1114111 else 255
theorem topN_any (w:World)(rn:Bool):Calls Tryz.prog 173 #[.bool rn] w (RetV (.int .i64 (topI rn)) w):=by
 cases rn with
 | true=>
  go_enter Tryz.func173,Tryz.ntmps173
  go_wp2
  go_ret
  exact⟨rfl,Ext.rfl' _⟩
 | false=>
  go_enter Tryz.func173,Tryz.ntmps173
  go_wp2
  go_ret
  exact⟨rfl,Ext.rfl' _⟩
theorem topI_bd (rn:Bool):255<=topI rn/\topI rn<=1114111:=by cases rn<;>decide
def RetEr (w:World)(e:Ending)(w':World):Prop:=∃r:Int,e=.returned (.int .i64 r)/\(r=0\/r=1\/r=4)/\Ext w w'
theorem hvlEnd {P:Prop}(h:P:=by
 have B2:=Blk.new w2 4 #[.bool y];have X2:=Ext.alloc w2 (.cells #[.bool y] 4);obtain⟨gg,hgg⟩:∃g,g=w2.heap.size:=⟨_,rfl⟩
 rw[<-hgg] at B2 ⊢;have Hgg:=lh hgg;clear hgg;generalize w2.alloc (.cells #[.bool y] 4)=w3 at *;replace p8:=X2.cell p8;replace p9:=X2.cell p9
 go_upto_region 4 with(go_at_call 173;refine(topN_any w3 rn).mono ?_;rintro e w4 ⟨rfl,x4⟩;have HX4:=lh x4)
 have X4:=Ext.alloc w4 (.cells #[.int .i64 (topI rn)] 3);have B4:=Blk.new w4 3 #[.int .i64 (topI rn)];obtain⟨gt,hgt⟩:∃g,g=w4.heap.size:=⟨_,rfl⟩
 rw[<-hgt] at B4 ⊢;have hne:gs≠gt:=by have h1:=(B1.ext X2).lt;have h2:=HX4.out.size;omega
 clear hgt;generalize w4.alloc (.cells #[.int .i64 (topI rn)] 3)=w5 at *
 go_upto_region 5 with fail
 have X5:=Ext.alloc w5 (.cells #[.nilFunc] 281);have B5:=Blk.new w5 281 #[.nilFunc];obtain⟨gw,hgw⟩:∃g,g=w5.heap.size:=⟨_,rfl⟩
 rw[<-hgw] at B5 ⊢;have hlow:w5.heap.size<=gw:=om;clear hgw;generalize w5.alloc (.cells #[.nilFunc] 281)=w6 at *;have z0:w6.cell? ⟨gw,0,none⟩=some .nilFunc:=B5.cell 0;have z1:=B5.frz 0;obtain⟨FN,hFN⟩:∃FN,FN=Value.func (Fn.func 174) #[] #[.pointer (some ⟨gs,0,none⟩),.pointer (some ⟨gg,0,none⟩),.pointer (some ⟨gp,0,none⟩),.pointer (some ⟨gt,0,none⟩),.pointer (some ⟨gw,0,none⟩)]:=⟨_,rfl⟩;have B6:Blk (w6.setCell ⟨gw,0,none⟩ FN) gw 281 #[FN]:=Blk.set B5 0 FN;have X6:Ext w5 (w6.setCell ⟨gw,0,none⟩ FN):=X5.setNew (p:=⟨gw,0,none⟩) hlow FN;rw[hFN] at B6 X6;have hst:(store ⟨gw,0,none⟩ (.func (Fn.func 174) #[] #[.pointer (some ⟨gs,0,none⟩),.pointer (some ⟨gg,0,none⟩),.pointer (some ⟨gp,0,none⟩),.pointer (some ⟨gt,0,none⟩),.pointer (some ⟨gw,0,none⟩)])).run Tryz.prog w6=.ok () (w6.setCell ⟨gw,0,none⟩ (.func (Fn.func 174) #[] #[.pointer (some ⟨gs,0,none⟩),.pointer (some ⟨gg,0,none⟩),.pointer (some ⟨gp,0,none⟩),.pointer (some ⟨gt,0,none⟩),.pointer (some ⟨gw,0,none⟩)])):=by
  rw[run_store Tryz.prog w6 _ _ _ rfl,z0];simp[z1]
 go_upto_region 6 with fail
 generalize w6.setCell ⟨gw,0,none⟩ (.func (Fn.func 174) #[] #[.pointer (some ⟨gs,0,none⟩),.pointer (some ⟨gg,0,none⟩),.pointer (some ⟨gp,0,none⟩),.pointer (some ⟨gt,0,none⟩),.pointer (some ⟨gw,0,none⟩)])=w7 at *;clear hFN z0 z1 hst B5 X5;have XA:=lh (X4.trans X6);have XB:=lh (HX4.out.trans XA.out);have XC:=lh (X2.trans XB.out);have XD:=lh (HXd.out.trans XC.out);have V7:VG caps (topI rn) w7 gs gg gp gt gw 0:=⟨B1.ext XC.out,⟨y,B2.ext XB.out⟩,⟨_,HB0.out.ext XC.out,rfl⟩,B4.ext X6,B6,hne⟩;have HC:=lh (valid1_all bd w1 caps (topI rn) (topI_bd rn) gs gg gp gt gw ⟨by have:=Hgs.out;omega,by have:=Hgg.out;have:=HXd.out.size;omega⟩ d w7 XD.out 0 V7 om gp 0 HPN.out 1 om);have w00:w7.cell? ⟨gw,0,none⟩=some (.func (Fn.func 174) #[] #[.pointer (some ⟨gs,0,none⟩),.pointer (some ⟨gg,0,none⟩),.pointer (some ⟨gp,0,none⟩),.pointer (some ⟨gt,0,none⟩),.pointer (some ⟨gw,0,none⟩)]):=V7.f.cell 0;have HLO:Hid (w.heap.size<=gs/\w.heap.size<=gg):=lh (by have a1:=Hgs.out;have a2:=Hgg.out;have a3:=HX0.out.size;have a4:=HXd.out.size;omega);have XE:=lh (HX0.out.trans XD.out);clear B1 B2 B4 B6 p8 p9 X2 x4 X4 X6 hne V7
 go_wp2_with (go_at_call 174;refine HC.out.mono ?_;rintro e w8 ⟨z,k8',rfl,v8,hk8,hz8,k8⟩;obtain⟨y8,hy8⟩:=v8.g;have g8:w8.cell? ⟨gg,0,none⟩=some (.bool y8):=hy8.cell 0;have XF:=lh (Ext.kp XE.out k8 (fun i hi=>by rcases hi with rfl|rfl;exact HLO.out.1;exact HLO.out.2));clear v8 k8 hy8 hk8 hz8)
 all_goals
  go_ret
  exact⟨_,rfl,om,XF.out⟩):P:=h
theorem hvalid_any (bd d:Nat)(S:Nat->Prop)(w:World)(n:Nd)(caps:Int)(rn:Bool)(ht:TreeAt bd S w d n.val):Calls Tryz.prog 144 #[.agg (patN n caps rn)] w (RetEr w):=by
 have X0:=Ext.alloc w (.cells (patN n caps rn) 28);have B0:=Blk.new w 28 (patN n caps rn);have HPN:=lh (patN_pn ht X0 B0);have HX0:=lh X0;unfold patN at B0 HPN HX0;unfold patN;go_enter Tryz.func144,Tryz.ntmps144
 go_upto_region 1 with fail
 obtain⟨gp,hgp⟩:∃g,g=w.heap.size:=⟨_,rfl⟩
 rw[<-hgp] at B0 HPN ⊢;clear hgp X0;generalize w.alloc (.cells #[.int .i64 n.op,.slice n.A n.l.length n.c,.slice n.K n.ks.length n.kc,.int .i64 n.mn,.int .i64 n.mx,.int .i64 n.md,.int .i64 n.n,.bool n.neg,.int .i64 caps,.bool rn] 28)=w1 at *;have X1:=Ext.alloc w1 (.cells #[.int .i64 0] 3);have B1:=Blk.new w1 3 #[.int .i64 0]
 go_upto_region 2 with fail
 obtain⟨gs,hgs⟩:∃g,g=w1.heap.size:=⟨_,rfl⟩
 rw[<-hgs] at B1 ⊢;have Hgs:=lh hgs;clear hgs;generalize w1.alloc (.cells #[.int .i64 0] 3)=w2 at *;have HB0:=lh (B0.ext X1);have HXd:=lh X1;have p8:w2.cell? ⟨gp,8,none⟩=some (.int .i64 caps):=HB0.out.cell 8;have p9:w2.cell? ⟨gp,9,none⟩=some (.bool rn):=HB0.out.cell 9;clear B0 X1;by_cases hc0:0<=caps
 ·go_upto_region 3 with fail
  obtain⟨y,hy⟩:∃y,y=decide (caps<=9):=⟨_,rfl⟩
  rw[<-hy];clear hy;exact hvlEnd
 ·go_upto_region 3 with fail
  obtain⟨y,hy⟩:∃y,y=false:=⟨_,rfl⟩;rw[show(Obj.cells #[Value.bool false] 4)=Obj.cells #[Value.bool y] 4 from by rw[hy]];clear hy;exact hvlEnd
theorem hcompile_any (bd d:Nat)(S:Nat->Prop)(hbd3:3<=bd)(hbd:bd<=1000)(hB:lenB bd d<=1000)(hd2:d<=1000)(w:World)(n:Nd)(gr:Int)(rn:Bool)(ht:TreeAt bd S w d n.val)(hgr:I64 gr) :
 Calls Tryz.prog 102 #[.agg (patN n gr rn)] w (RetGp rimE w):=by
 obtain⟨B0,B2,E0⟩:=alloc2 w 28 (patN n gr rn) 48 #[.slice none 0 0,.int .i64 0,.bool false];obtain⟨iN,jN0,jN1,jN2,jN3⟩:=info_parts infoIs;have HT:=lh ht;have HG:=lh hgr;have HVV:=fun(w':World) (y':Ext w w')=>lh (hvalid_any bd d S w' n gr rn (ht.ext y'));clear ht hgr;unfold patN at B0 B2 E0;unfold patN at HVV ⊢;go_enter Tryz.func102,Tryz.ntmps102
 go_upto_region 1 with fail
 obtain⟨g1,hg1⟩:∃g,g=w.heap.size:=⟨_,rfl⟩;obtain⟨g2,hg2e⟩:∃g,g=w.heap.size+1:=⟨_,rfl⟩
 rw[<-hg2e] at B2 ⊢
 rw[<-hg1] at B0 ⊢;have hne:g1≠g2:=om;have hg2:w.heap.size<=g2:=om;clear hg1 hg2e;generalize ((w.alloc (.cells #[.int .i64 n.op,.slice n.A n.l.length n.c,.slice n.K n.ks.length n.kc,.int .i64 n.mn,.int .i64 n.mx,.int .i64 n.md,.int .i64 n.n,.bool n.neg,.int .i64 gr,.bool rn] 28)).alloc (.cells #[.slice none 0 0,.int .i64 0,.bool false] 48))=wa at *;have HXa:=lh E0;have HTa:=lh (HT.out.ext E0);have HP:=fun(w':World) (x:Ext wa w')=>lh (patN_pn (bd:=bd) (d:=d) (gp:=g1) HTa.out x (B0.ext x));have HC:=fun(w':World) (x:Ext wa w')=>lh (comp_any bd w' d hd2 w' (Ext.rfl' _) g1 0 (HP w' x).out none 0 [] (OwnS.nil _ _ _ _) (by simp;omega) si);have HS:=fun(w':World) (x:Ext wa w')=>lh (hlen_any bd d w' g1 0 (HP w' x).out);have z0:=B0.cell 0;have z1:=B0.cell 1;have z2:=B0.cell 2;have z3:=B0.cell 3;have z4:=B0.cell 4;have z5:=B0.cell 5;have z6:=B0.cell 6;have z7:=B0.cell 7;have z8:=B0.cell 8;have z9:=B0.cell 9;clear E0;have HV:=HVV wa HXa.out
 go_upto_region 2 with(go_at_call 144;refine HV.out.mono ?_;rintro e w3 ⟨x,rfl,hx014,x3⟩)
 clear HV HVV hx014;have B03:=B0.ext x3;have B3:=B2.ext x3;have HX3:=lh (HXa.out.trans x3);have H13:=lh x3;obtain⟨y0,y1,y2,f0,f1,f2,_⟩:=B3.c3;clear x3 B0 B2 z0 z1 z2 z3 z4 z5 z6 z7 z8 z9;by_cases hx:x=0
 ·have hx0:(x != 0)=false:=by simp[hx]
  go_upto_region 4 with fail
  clear hx0
  go_upto_region 6 with(go_at_call 145;refine(HC _ H13.out).out.mono ?_;rintro e w4 ⟨b4,rfl,x4,_,_⟩;have B4:=B3.ext x4;have B04:=B03.ext x4;have HX4:=lh (HX3.out.trans x4);have H14:=lh (H13.out.trans x4);clear x4;obtain⟨y0,y1,y2,f0,f1,f2,_⟩:=B4.c3;cases b4)
  ·have b9:=setPg_blk B4 none 0 0 0 false;have x9:=setPg_ext HX4.out hg2 none 0 0 0 false;change bodyPost _ _ _ _ _ (setPg w4 g2 none 0 0 0 false);generalize setPg w4 g2 none 0 0 0 false=w9 at *;obtain⟨r0,r1,r2,_⟩:=b9.c3;refine bodyPost_ret (v:=.tuple #[.agg #[.slice none 0 0,.int .i64 0,.bool false],.int .i64 10]) (by simp[results,Tryz.results102,go_sem,r0,r1,r2]) rfl ⟨none,0,[],0,false,10,rfl,GpAt.nil _ _,by simp[I64],x9⟩
  ·clear HC
   go_upto_region 8 with(go_at_call 146;refine(HS _ H14.out).out.mono ?_;rintro e w5 ⟨sz,rfl,x5⟩;have B5:=B4.ext x5;have B05:=B04.ext x5;have HX5:=lh (HX4.out.trans x5);have H15:=lh (H14.out.trans x5);clear x5;obtain⟨y0,y1,y2,f0,f1,f2,_⟩:=B5.c3;by_cases hbig:8192<wrap64 (sz+1))
   ·have b9:=setPg_blk B5 none 0 0 0 false;have x9:=setPg_ext HX5.out hg2 none 0 0 0 false;change bodyPost _ _ _ _ _ (setPg w5 g2 none 0 0 0 false);generalize setPg w5 g2 none 0 0 0 false=w9 at *;obtain⟨r0,r1,r2,_⟩:=b9.c3;refine bodyPost_ret (v:=.tuple #[.agg #[.slice none 0 0,.int .i64 0,.bool false],.int .i64 4]) (by simp[results,Tryz.results102,go_sem,r0,r1,r2]) rfl ⟨none,0,[],0,false,4,rfl,GpAt.nil _ _,by simp[I64],x9⟩
   ·have HGG:=lh B5.lt;have HB5:=lh B5;have k8:w5.cell? ⟨g1,8,none⟩=some (.int .i64 gr):=B05.cell 8;have k9:w5.cell? ⟨g1,9,none⟩=some (.bool rn):=B05.cell 9;clear y0 y1 y2 f0 f1 f2 hbig B4 B04 B3 B03 B5 B05;have q8:=fun(w':World) (h:Kp [g2] w5 w')=>h.cell k8 (by simp[hne]);have q9:=fun(w':World) (h:Kp [g2] w5 w')=>h.cell k9 (by simp[hne]);clear k8 k9;refine Xr.start [g2] kr ?_;refine Xtk 0 ?_;refine Xtk 2 ?_;refine Xtk 5 ?_
    iterate 3(refine Xtn ?_)
    refine Xr.lazy 3 23 4 (fun g=>.slice (some ⟨g,0,none⟩) 1 1) 126 #[.int .i64 0,.int .i64 0,.int .i64 0,.int .i64 0,.slice none 0 0] rfl (by simpa using HGG.out) dK si (fun w'=>by go_simp) ?_;refine Xcl 1 fun w6 hE6 hK6 K hKK=>?_;have hs6:=hE6.size;have HCD:=hcode_any bd d hbd3 hbd om w6 g1 0 (HP w6 (H15.out.trans hE6)).out;go_simp;refine HCD.mono ?_;rintro e w7 ⟨A7,c7,hs7,rfl,hl7,ho7,hit7,x7⟩;refine hKK _ _ x7 ?_;clear hKK HCD;refine ptm ?_;have HAW:=OwnS.row ho7;have hup7:∀k,A7.map (·.block)=some k->w6.heap.size<=k/\k<w7.heap.size:=fun k hk=>⟨HAW k hk,(OwnS.blt ho7 hk).1⟩;have HL7:=lh hl7;clear hl7;refine Xr.stepZ rfl dK (fun _=>by rfl) (fun w8 g8 hE8 hK8 hg8 hB8 hno K hKK=>?_);have hl7:=HL7.out;refine wp_app _ _ _ _ rfl w6.heap.size 126 iN _ 5 56 Tryz.underlying46 jN0 jN1 jN2 jN3 rfl om A7 hs7.length c7 (flatN hs7) rfl (OwnS.ext ho7 hE8) _ 1 1 (flatN [inD]) rfl rfl (flat_blk (h:=inD) hB8) (flatN_one _) um om (by have:=(x7.trans hE8).size;omega) ?_;intro A9 c9 w9 h9 hg9 hat9;clear hl7;have x69:Ext w6 w9:=Ext.app (x7.trans hE8) (OwnS.ext ho7 hE8) hg9;have x59:=hE6.trans x69;have kg9:=KpP.of_grown hg9;have hA7:∀b,A7.map (·.block)=some b->∃cur,w8.heap[b]? = some (.cells cur 126 (0,0)):=fun b e=>by
     rcases OwnS.form (OwnS.ext ho7 hE8) with⟨rfl,_⟩|⟨g,cur,rfl,_,hh,_⟩
     ·cases e
     ·injection e with e;subst e;exact⟨cur,hh⟩
    have IT9:Hid (∀h∈hs7,h.wf/\OwnP w9 0 h.A h.c h.l/\(∀s∈h.l,I64 s.1/\I64 s.2)/\SetE rimE h.l):=lh (fun h hh=>by
     obtain⟨a1,a2,a3⟩:=hit7 h hh;refine⟨a1,OwnP.kp (OwnS.ext a2 hE8) kg9 (fun b e1 e2=>?_),a3⟩;obtain⟨cur,hc⟩:=hA7 b e2;rcases OwnS.form (OwnS.ext a2 hE8) with⟨e3,_⟩|⟨g,cur',e3,_,hh',_⟩
     ·rw[e3] at e1;cases e1
     ·rw[e3] at e1;injection e1 with e1;subst e1;exact Blk.neT hh' hc de rfl)
    refine hKK _ _ (WI_grown hg9 (fun i hi=>.inr ⟨(w6.heap.size,w7.heap.size),by simp,(hup7 i hi).1,(hup7 i hi).2⟩)) (Kp.of_ext x59) ?_;clear hKK;refine ptm ?_;refine Xtk 9 ?_
    rw[<-flatN_append] at h9;have H9:=lh h9;clear h9 hg9 hat9 ho7 HAW hup7 hA7 kg9 hit7;refine Xsp 10 fun w10 hE10 hK10 K hKK=>?_;have B10:=HB5.out.ext (x59.trans hE10);obtain⟨y0,y1,y2,f0,f1,f2,_⟩:=B10.c3;go_simp;change K _ (setPg w10 g2 A9 (hs7.length+1) c9 gr rn);refine hKK _ _ (setPg_kpp (KpP.refl _ _) (.inl si) _ _ _ _ _) (setPg_kp hK10 si _ _ _ _ _) ?_;clear hKK;refine ptm ?_;refine Xtk 11 ?_;refine Xdn fun w12 hE12 hK12=>?_;have b9:=(setPg_blk B10 A9 (hs7.length+1) c9 gr rn).ext hE12;have x12:=(setPg_ext (HX5.out.trans (x59.trans hE10)) hg2 A9 (hs7.length+1) c9 gr rn).trans hE12;have kk:KpP (·=g2) w10 (setPg w10 g2 A9 (hs7.length+1) c9 gr rn):=setPg_kpp (KpP.refl (·=g2) w10) rfl A9 (hs7.length+1) c9 gr rn;have HQ:Hid (GpAt rimE w12 A9 c9 (hs7++[inD])):=lh (by
     have h6:=hE6.size;have hlt:=HGG.out;have o10:=OwnS.kp (OwnS.ext H9.out hE10) kk (fun b h1 h2=>by have h3:=OwnS.row H9.out b h1;have h4:b=g2:=h2;omega);have o12:=OwnS.ext o10 hE12;rw[show hs7.length+1=(hs7++[inD]).length by simp] at o12;have it:∀h∈hs7,h.wf/\SL w12 h.A h.c h.l:=fun h hh=>by
      obtain⟨a1,a2,a3,_⟩:=IT9.out h hh;have a4:=OwnP.kp (OwnS.ext a2 hE10) kk (fun b e1 e2=>by
       have e2':b=g2:=e2;rcases OwnS.form (OwnS.ext a2 hE10) with⟨e3,_⟩|⟨g,cur',e3,_,hh',_⟩
       ·rw[e3] at e1;cases e1
       ·rw[e3] at e1;injection e1 with e1;exact Blk.neT hh' B10 de (e1.trans e2'))
      exact⟨a1,SL.of_own (OwnS.ext a4 hE12) a3⟩
     refine⟨PL.of_own o12 (fun z hz=>?_) (fun z hz=>?_),fun z hz=>?_,by have:=HL7.out;simp;omega⟩
     ·rcases List.mem_append.1 hz with hz|hz
      ·exact(it z hz).1
      ·rw[List.mem_singleton.1 hz];simp[Hin.wf,I64,inD]
     ·rcases List.mem_append.1 hz with hz|hz
      ·exact(it z hz).2
      ·rw[List.mem_singleton.1 hz];exact SL.nil _
     ·rcases List.mem_append.1 hz with hz|hz
      ·exact(IT9.out z hz).2.2.2
      ·rw[List.mem_singleton.1 hz];exact SetE.nil _)
    have HLN:Hid ((hs7++[inD]).length=hs7.length+1):=lh si;clear H9 hE12 hK12 hE10 hK10 B10 kk IT9;obtain⟨r0,r1,r2,_⟩:=b9.c3
    go_wp2_with fail
    refine bodyPost_ret (v:=.tuple #[.agg #[.slice A9 (hs7.length+1) c9,.int .i64 gr,.bool rn],.int .i64 0]) (by simp[results,Tryz.results102,go_sem,r0,r1,r2]) rfl ⟨A9,c9,hs7++[inD],gr,rn,0,by rw[HLN.out],HQ.out,HG.out,x12⟩
 ·have hx1:(x != 0)=true:=by simp[hx]
  go_wp2_with fail
  have b9:=setPg_blk B3 none 0 0 0 false;have x9:=setPg_ext HX3.out hg2 none 0 0 0 false;change bodyPost _ _ _ _ _ (setPg w3 g2 none 0 0 0 false);generalize setPg w3 g2 none 0 0 0 false=w9 at *;obtain⟨r0,r1,r2,_⟩:=b9.c3;refine bodyPost_ret (v:=.tuple #[.agg #[.slice none 0 0,.int .i64 0,.bool false],.int .i64 x]) (by simp[results,Tryz.results102,go_sem,r0,r1,r2]) rfl ⟨none,0,[],0,false,x,rfl,GpAt.nil _ _,by simp[I64],x9⟩
end
end Go.Proofs.YtmocoldobnimfaaGreat
