/- Texts of this proof: C5g C2g C3g C4g C6g C7g. -/
import Derived.Test.YtmgpefenkilffaaGreatSW21
import Derived.Test.YtmgpefenkilffaaGreatSW26
set_option linter.all false
set_option maxRecDepth 100000
set_option maxHeartbeats 16000000
namespace Go.Proofs.YtmgpefenkilffaaGreat
section
open Go.RowKit
attribute [local go_sem ↓] Go.wp_at_zero Go.wp_at_succ
theorem xsize_G (u C:Int)(S:Nat->Prop):∀(d:Nat) (w:World) (v:Value) (T:Tm),d<=6->TreeG 3 S w d v T->GdT u C T->Calls Tryz.prog 100 #[v] w (RetV (.int .i64 (szF T)) w):=by
 intro d;induction d with
 | zero=>intro w v T hd h;obtain⟨e,he⟩:=h.pos;omega
 | succ d ih=>
  intro w v T hd h hg;have HLE:=lh (Nat.le_trans (szF_le h hg) (szB_le hd));obtain⟨n,rfl,hok,hsl,hkl,hkc,hcl,hhd,htl,hks⟩:=h.node;obtain⟨hh,hgk⟩:HdOk u C T.hd T.kids/\∀t∈T.kids,GdT u C t:=by cases hg with|mk _ h1 h2=>exact⟨h1,h2⟩
  have HG:=lh hgk;have HH:=lh hh;have HTL:=lh htl;have HCE:=lh (szF_eq T);have HKS:Hid (∀i (hi:i<=T.kids.length),((T.kids.take i).map szF).sum<=5000):=lh (fun i hi=>by
   have h1:=sum_take szF T.kids i;have h2:∀x∈T.kids.map szF,x<=szB d:=by
    intro x hx;obtain⟨t,ht,rfl⟩:=List.mem_map.1 hx;obtain⟨j,hj,rfl⟩:=List.getElem_of_mem ht;exact szF_le (hks j om hj) (hgk _ ht)
   have h3:=sum_le h2;have h4:=szB_le (show d<=6 by omega);have h5:=hok.few;rw[List.length_map] at h3;have h6:T.kids.length*szB d<=3*1456:=Nat.mul_le_mul om h4;omega)
  clear hg hgk hh htl;obtain⟨op,A,c,l,K,kc,ks,mn,mx,md,nn,neg⟩:=n;simp only[Nd.hd] at hhd;have HHD:=lh hhd;clear hhd;have hop:=hok.op;have hfew:=hok.few;have hmn:=hok.mn;have hmx:=hok.mx
  simp only at hop hsl hkl hkc hcl hks hfew hmn hmx
  unfold Nd.val
  simp only
  have HIH:=lh ih;clear ih h hok;have B0:=Blk.new w 61 #[.int .i64 op,.slice A l.length c,.slice K ks.length kc,.int .i64 mn,.int .i64 mx,.int .i64 md,.int .i64 nn,.bool neg];have E0:=Ext.alloc w (.cells #[.int .i64 op,.slice A l.length c,.slice K ks.length kc,.int .i64 mn,.int .i64 mx,.int .i64 md,.int .i64 nn,.bool neg] 61);have HC:=lh (hcl.ext E0);have HK:=lh (fun i hi hj=>(hks i hi hj).ext E0);have HKL:ks.length<=kc/\kc<=9223372036854775807:=⟨hkl,by unfold maxLen at hkc;omega⟩;clear hcl hks hsl hkl hkc;go_enter Tryz.func100,Tryz.ntmps100
  go_upto_region 1 with fail
  obtain⟨gx,hgx⟩:∃gx,gx=w.heap.size:=⟨_,rfl⟩
  rw[<-hgx] at B0 ⊢;clear hgx;generalize w.alloc (.cells #[.int .i64 op,.slice A l.length c,.slice K ks.length kc,.int .i64 mn,.int .i64 mx,.int .i64 md,.int .i64 nn,.bool neg] 61)=wa at *;have z0:wa.cell? ⟨gx,0,none⟩=some (.int .i64 op):=B0.cell 0;have z2:wa.cell? ⟨gx,2,none⟩=some (.slice K ks.length kc):=B0.cell 2;have z3:wa.cell? ⟨gx,3,none⟩=some (.int .i64 mn):=B0.cell 3;have z4:wa.cell? ⟨gx,4,none⟩=some (.int .i64 mx):=B0.cell 4
  go_upto_region 3 with fail
  go_loopw [4,3] (fun v u wr=>∃(i s:Nat),v=.int .i64 i/\u=.int .i64 s/\i<=ks.length/\Hid (s=((T.kids.take i).map szF).sum)/\Ext wa wr) (fun v _ _=>ks.length-(intOf v).toNat)
  case atStart=>exact⟨0,0,rfl,rfl,om,lh si,Ext.rfl' _⟩
  case round=>
   obtain⟨i,s,rfl,rfl,hi,HS,x1⟩:=hrel;have z0r:=x1.cell z0;have z2r:=x1.cell z2;have z3r:=x1.cell z3;have z4r:=x1.cell z4;by_cases hlt:i<ks.length
   ·have hiI:(i:Int)<ks.length:=om;obtain⟨b,o,hK,n,ht,k0,k1,k2,k3,k4,k5,k6,k7⟩:=kid8G (HC.out.ext x1) HTL.out (fun i hi hj=>(HK.out i hi hj).ext x1) hlt;have hK':=hK;subst hK';have HT:=lh ht;clear ht;have HKC:=lh (HIH.out wr _ _ om HT.out (HG.out _ (List.getElem_mem _)));have htk:=sum_succ szF T.kids (HTL.out▸hlt);have hks:=HKS.out (i+1) (by have:=HTL.out;omega);have hs:=HS.out;obtain⟨q,hq⟩:∃q,q=szF (T.kids[i]'(HTL.out▸hlt)):=⟨_,rfl⟩
    rw[<-hq] at HKC htk;have HS2:Hid (s+q=((T.kids.take (i+1)).map szF).sum):=lh om;have hw:IntKind.i64.wrap ((s:Int)+(q:Int))=((s+q:Nat):Int):=wj;clear htk hks hs hq
    go_wp2_with (go_at_call 100;refine HKC.out.mono ?_;rintro e w3 ⟨rfl,x3⟩)
    go_roundw
    case rel=>exact⟨i+1,s+q,by go_num,by first|rfl|(push_cast;rfl),om,HS2,x1.trans x3⟩
    case measure=>simp[intOf];omega
   ·have hiI:¬(i:Int)<ks.length:=om;have hs5:s<=5000:=by have:=HKS.out i (by have:=HTL.out;omega);have:=HS.out;omega
    have HSE:Hid (s=(T.kids.map szF).sum):=lh (by have h:=HS.out;rw[List.take_of_length_le (by have:=HTL.out;omega)] at h;exact h);obtain⟨r,hr⟩:∃r:Nat,r=szF T:=⟨_,rfl⟩;have hrl:r<=1456:=by rw[hr];exact HLE.out
    have HRE:Hid (r=szH ⟨op,l,mn,mx,md,nn,neg⟩ (T.kids.map szF)):=lh (by rw[hr,HCE.out,HHD.out]);have HR:=lh hr;have hln:(T.kids.map szF).length=ks.length:=by rw[List.length_map,<-HTL.out]
    have HRF:Hid (r=if op=1\/op=11 then 1 else if op=3 then s+2*ks.length-2 else if op=5 then s+2 else if op=4 then(if mx = -1 then(mn.toNat+1)*s+2 else mx.toNat*s+(mx.toNat-mn.toNat)) else s):=lh (by rw[HRE.out,HSE.out];unfold szH;rw[hln]);have HNU:=HH.out.num;rw[HHD.out] at HNU
    simp only at HNU
    clear hln hr;rcases HNU with⟨h0,_⟩|⟨h0,_⟩|⟨h0|h0,_,_,_,_,_,h2,h3⟩|⟨h0,_,⟨m1,m2,m3⟩,_⟩|⟨h0,_⟩|⟨h0,_⟩
    case inr.inr.inr.inl=>
     subst h0;have hn:mn=0\/mn=1\/mn=2:=om;have hm:mx = -1\/mx=1\/mx=2\/mx=3:=om;clear m1 m2 hmn hmx;rcases hn with rfl|rfl|rfl<;>rcases hm with rfl|rfl|rfl|rfl
     all_goals first
      | (exfalso;clear HRF HRE HSE;omega;done)
      | skip
     all_goals
      clear m3;have hre:=HRF.out;simp at hre;have h1:(s:Int)<=10000:=om
      go_wp2_with fail
      all_goals
       go_ret
       refine⟨?_,E0.trans x1⟩;refine congrArg (fun z:Int=>Ending.returned (Value.int .i64 z)) (?_:_=((szF T:Nat):Int))
       rw[<-HR.out];omega
    all_goals
     subst h0
     try(have hk2:2<=ks.length:=by have:=HTL.out;omega)
     have hre:=HRF.out;simp at hre;have h1:(s:Int)<=10000:=om
     go_wp2_with fail
     all_goals
      go_ret
      refine⟨?_,E0.trans x1⟩;refine congrArg (fun z:Int=>Ending.returned (Value.int .i64 z)) (?_:_=((szF T:Nat):Int))
      rw[<-HR.out];omega
def CdP (C fm:Int)(N:Nat)(hs:List Hin):Prop:=hs.length=N/\∀h∈hs,VI C (fm+N) h
theorem CdP.app {C fm:Int}{N M:Nat}{hs ks:List Hin}(h:CdP C fm N hs)(k:CdP C (fm+N) M ks):CdP C fm (N+M) (hs++ks):=by
 refine⟨by rw[List.length_append,h.1,k.1],fun x hx=>?_⟩;rcases List.mem_append.1 hx with hx|hx
 ·exact(h.2 x hx).mono (by push_cast;omega)
 ·exact(k.2 x hx).mono (by push_cast;omega)
def RetCg (T:Nat)(w0:World)(Pd:List Hin->Prop)(w:World)(e:Ending)(w':World):Prop:=
 ∃(A:Option Addr) (c:Nat) (hs:List Hin),e=.returned (.slice A hs.length c)/\Pd hs/\CdI w0 w w' T A c hs
def CodeG (C:Int)(S:Nat->Prop)(w0:World)(d:Nat):Prop:=
 ∀(w:World) (v:Value) (T:Tm),Ext w0 w->TreeG 3 S w0 d v T->GdT 64 C T->∀fm:Int,0<=fm->fm+szF T<=100000->Calls Tryz.prog 101 #[v,.int .i64 fm] w (RetCg 128 w0 (CdP C fm (szF T)) w)
theorem kid8xg {bd:Nat}{S:Nat->Prop}{w w0:World}{d:Nat}{K:Option Addr}{ks:List Value}{ts:List Tm}(x:Ext w0 w)(hc:CellsAt w0 K (ks.flatMap cellsOf))(hl:ks.length=ts.length)(ht:∀i (hi:i<ks.length) (hj:i<ts.length),TreeG bd S w0 d ks[i] ts[i]){i:Nat}(hi:i<ks.length) :
 ∃b o,K=some ⟨b,o,none⟩/\∃n:Nd,TreeG bd S w0 d n.val (ts[i]'(hl▸hi))/\w.cell? ⟨b,o+i*8,none⟩=some (.int .i64 n.op)/\w.cell? ⟨b,o+i*8+1,none⟩=some (.slice n.A n.l.length n.c)/\w.cell? ⟨b,o+i*8+2,none⟩=some (.slice n.K n.ks.length n.kc)/\
  w.cell? ⟨b,o+i*8+3,none⟩=some (.int .i64 n.mn)/\w.cell? ⟨b,o+i*8+4,none⟩=some (.int .i64 n.mx)/\w.cell? ⟨b,o+i*8+5,none⟩=some (.int .i64 n.md)/\w.cell? ⟨b,o+i*8+6,none⟩=some (.int .i64 n.n)/\w.cell? ⟨b,o+i*8+7,none⟩=some (.bool n.neg):=by
 obtain⟨b,o,hK,n,ht,h0,h1,h2,h3,h4,h5,h6,h7⟩:=kid8G hc hl ht hi;exact⟨b,o,hK,n,ht,x.cell h0,x.cell h1,x.cell h2,x.cell h3,x.cell h4,x.cell h5,x.cell h6,x.cell h7⟩
theorem xcode_1g (C:Int)(w0 w:World)(x0:Ext w0 w)(A:Option Addr)(c:Nat)(l:List Sp)(K:Option Addr)(kc:Nat)(ks:List Value)(mn mx md nn:Int)(neg:Bool)(fm:Int)(hsl:SL w0 A c l)(hset:SetOk l)(h8:l∈sets8) :
 Calls Tryz.prog 101 #[.agg #[.int .i64 1,.slice A l.length c,.slice K ks.length kc,.int .i64 mn,.int .i64 mx,.int .i64 md,.int .i64 nn,.bool neg],.int .i64 fm] w (RetCg 128 w0 (CdP C fm 1) w):=by
 have B0:=Blk.new w 61 #[.int .i64 1,.slice A l.length c,.slice K ks.length kc,.int .i64 mn,.int .i64 mx,.int .i64 md,.int .i64 nn,.bool neg];have E0:=Ext.alloc w (.cells #[.int .i64 1,.slice A l.length c,.slice K ks.length kc,.int .i64 mn,.int .i64 mx,.int .i64 md,.int .i64 nn,.bool neg] 61);have HS:=lh hsl;have hll:=hsl.len;clear hsl;go_enter Tryz.func101,Tryz.ntmps101
 go_upto_region 1 with fail
 obtain⟨gx,hgx⟩:∃gx,gx=w.heap.size:=⟨_,rfl⟩
 rw[<-hgx] at B0 ⊢;clear hgx;generalize w.alloc (.cells #[.int .i64 1,.slice A l.length c,.slice K ks.length kc,.int .i64 mn,.int .i64 mx,.int .i64 md,.int .i64 nn,.bool neg] 61)=wa at *;have z0:wa.cell? ⟨gx,0,none⟩=some (.int .i64 1):=B0.cell 0;have z1:wa.cell? ⟨gx,1,none⟩=some (.slice A l.length c):=B0.cell 1;have z2:wa.cell? ⟨gx,2,none⟩=some (.slice K ks.length kc):=B0.cell 2;have z6:wa.cell? ⟨gx,6,none⟩=some (.int .i64 nn):=B0.cell 6
 go_wp2_with fail
 go_ret
 exact⟨_,1,[⟨1,0,0,0,A,c,l⟩],rfl,⟨rfl,fun h hh=>by rw[List.mem_singleton.1 hh];exact .inl ⟨rfl,rfl,rfl,rfl,h8⟩⟩,cd_one (h:=⟨1,0,0,0,A,c,l⟩) (Blk.new wa _ _) E0.size (E0.trans (Ext.alloc _ _)) ⟨by simp[Hin.wf,I64],HS.out,setE_of hset⟩⟩
theorem xcode_0g (C:Int)(w0 w:World)(x0:Ext w0 w)(A:Option Addr)(c:Nat)(l:List Sp)(K:Option Addr)(kc:Nat)(ks:List Value)(mn mx md nn:Int)(neg:Bool)(fm:Int) :
 Calls Tryz.prog 101 #[.agg #[.int .i64 0,.slice A l.length c,.slice K ks.length kc,.int .i64 mn,.int .i64 mx,.int .i64 md,.int .i64 nn,.bool neg],.int .i64 fm] w (RetCg 128 w0 (CdP C fm 0) w):=by
 have B0:=Blk.new w 61 #[.int .i64 0,.slice A l.length c,.slice K ks.length kc,.int .i64 mn,.int .i64 mx,.int .i64 md,.int .i64 nn,.bool neg];have E0:=Ext.alloc w (.cells #[.int .i64 0,.slice A l.length c,.slice K ks.length kc,.int .i64 mn,.int .i64 mx,.int .i64 md,.int .i64 nn,.bool neg] 61);go_enter Tryz.func101,Tryz.ntmps101
 go_upto_region 1 with fail
 obtain⟨gx,hgx⟩:∃gx,gx=w.heap.size:=⟨_,rfl⟩
 rw[<-hgx] at B0 ⊢;clear hgx;generalize w.alloc (.cells #[.int .i64 0,.slice A l.length c,.slice K ks.length kc,.int .i64 mn,.int .i64 mx,.int .i64 md,.int .i64 nn,.bool neg] 61)=wa at *;have z0:wa.cell? ⟨gx,0,none⟩=some (.int .i64 0):=B0.cell 0;have z1:wa.cell? ⟨gx,1,none⟩=some (.slice A l.length c):=B0.cell 1;have z2:wa.cell? ⟨gx,2,none⟩=some (.slice K ks.length kc):=B0.cell 2;have z6:wa.cell? ⟨gx,6,none⟩=some (.int .i64 nn):=B0.cell 6
 go_wp2_with fail
 go_ret
 exact⟨none,0,[],rfl,⟨rfl,by simp⟩,CdI.nil E0⟩
theorem xcode_2g (C:Int)(w0 w:World)(x0:Ext w0 w)(A:Option Addr)(c:Nat)(l:List Sp)(K:Option Addr)(kc:Nat)(ks:List Value)(mn mx md nn:Int)(neg:Bool)(fm:Int)(S:Nat->Prop)(d:Nat)(ts:List Tm)(IH:CodeG C S w0 d)(hkl:ks.length<=kc/\kc<=maxLen)(hcl:CellsAt w0 K (ks.flatMap cellsOf))(hts:ks.length=ts.length)(hks:∀i (hi:i<ks.length) (hj:i<ts.length),TreeG 3 S w0 d ks[i] ts[i])(hgd:∀t∈ts,GdT 64 C t)(hf:0<=fm)(hfB:fm+((ts.map szF).sum:Nat)<=100000) :
 Calls Tryz.prog 101 #[.agg #[.int .i64 2,.slice A l.length c,.slice K ks.length kc,.int .i64 mn,.int .i64 mx,.int .i64 md,.int .i64 nn,.bool neg],.int .i64 fm] w (RetCg 128 w0 (CdP C fm (ts.map szF).sum) w):=by
 have B0:=Blk.new w 61 #[.int .i64 2,.slice A l.length c,.slice K ks.length kc,.int .i64 mn,.int .i64 mx,.int .i64 md,.int .i64 nn,.bool neg];have E0:=Ext.alloc w (.cells #[.int .i64 2,.slice A l.length c,.slice K ks.length kc,.int .i64 mn,.int .i64 mx,.int .i64 md,.int .i64 nn,.bool neg] 61);obtain⟨iI,jI0,jI1,jI2,jI3⟩:=info_parts infoIn;have HIH:=lh IH;have HC:=lh hcl;have HK:=lh hks;have HTS:=lh hts;have HGD:=lh hgd;have HFB:=lh hfB;have HKL:ks.length<=kc/\kc<=9223372036854775807:=⟨hkl.1,by have:=hkl.2;unfold maxLen at this;omega⟩;clear IH hcl hks hkl hts hgd hfB;go_enter Tryz.func101,Tryz.ntmps101
 go_upto_region 1 with fail
 obtain⟨gx,hgx⟩:∃gx,gx=w.heap.size:=⟨_,rfl⟩
 rw[<-hgx] at B0 ⊢;clear hgx;generalize w.alloc (.cells #[.int .i64 2,.slice A l.length c,.slice K ks.length kc,.int .i64 mn,.int .i64 mx,.int .i64 md,.int .i64 nn,.bool neg] 61)=wa at *;have z0:wa.cell? ⟨gx,0,none⟩=some (.int .i64 2):=B0.cell 0;have z1:wa.cell? ⟨gx,1,none⟩=some (.slice A l.length c):=B0.cell 1;have z2:wa.cell? ⟨gx,2,none⟩=some (.slice K ks.length kc):=B0.cell 2;have z6:wa.cell? ⟨gx,6,none⟩=some (.int .i64 nn):=B0.cell 6;have X0:=x0.trans E0
 go_upto_region 9 with fail
 go_loopw [6,5] (fun v6 v5 wr=>∃(i:Nat) (A5:Option Addr) (c5:Nat) (hs:List Hin),v6=.int .i64 i/\v5=.slice A5 hs.length c5/\i<=ks.length/\Hid (CdP C fm ((ts.take i).map szF).sum hs)/\Ext wa wr/\Hid (CdI w0 wa wr 128 A5 c5 hs)) (fun v _ _=>ks.length-(intOf v).toNat)
 case atStart=>exact⟨0,none,0,[],rfl,rfl,om,lh ⟨by simp,by simp⟩,Ext.rfl' _,lh (CdI.nil (Ext.rfl' wa))⟩
 case round=>
  obtain⟨i,A5,c5,hs,rfl,rfl,hi,HLEN,x1,HI⟩:=hrel;have hcaps:=HI.out.len;have z2r:=x1.cell z2;by_cases hlt:i<ks.length
  ·have hiI:(i:Int)<ks.length:=om;have hq1:fm+(hs.length:Int)+(szF (ts[i]'(HTS.out▸hlt)):Nat)<=100000:=by
    have hm1:=sum_succ szF ts (HTS.out▸hlt);have hm2:=sum_take szF ts (i+1);have hfb:=HFB.out;have hlen:=HLEN.out.1;omega
   obtain⟨b,o,hK,n,ht,k0,k1,k2,k3,k4,k5,k6,k7⟩:=kid8xg (X0.trans x1) HC.out HTS.out HK.out hlt;have hK':=hK;subst hK';have HT:=lh ht;have XR:=lh (X0.trans x1);have ewp:IntKind.i64.wrap (fm+(hs.length:Int))=fm+(hs.length:Int):=wj;clear ht
   go_wp2_with (first|(go_at_call 101;refine(HIH.out wr _ _ XR.out HT.out (HGD.out _ (List.getElem_mem _)) (fm+(hs.length:Int)) om hq1).mono ?_;rintro e w3 ⟨A3,c3,hs3,rfl,hp3,h3⟩;have HP3:=lh hp3;have hl3:hs3.length<=100000:=(by have:=hp3.1;omega);clear hp3;have H3:=lh h3;have hc3:=h3.len;have x3:=h3.ext;clear h3)|(at_builtin;obtain⟨ys,HY⟩:∃ys,Hid (ys=hs++hs3):=⟨_,lh rfl⟩;refine wpList_appN rfl _ _ _ rfl iI Tryz.underlying23 jI0 jI1 jI2 jI3 A5 c5 hs rfl (HI.out.up x3) A3 c3 hs3 rfl (OwnS.cells H3.out.own) H3.out.ok om ys HY.out ?_;intro A8 c8 w8 h8 x8 hr8 hg8;have H8:=lh h8;have HG8:=lh hg8;have HR8:=lh hr8;clear h8 hg8 hr8))
   go_roundw
   case rel=>exact⟨i+1,A8,c8,ys,by go_num,rfl,om,lh (by rw[HY.out,sum_succ szF ts (HTS.out▸hlt)];exact HLEN.out.app (by rw[<-HLEN.out.1];exact HP3.out)),(x1.trans x3).grown HG8.out (fun k hk=>by exact HR8.out k hk),H8⟩
   case measure=>simp[intOf];omega
  ·have hiI:¬(i:Int)<ks.length:=om;have e:i=ks.length:=om;subst e
   go_wp2_with fail
   go_ret
   exact⟨A5,c5,hs,rfl,by have h:=HLEN.out;rw[List.take_of_length_le (by have:=HTS.out;omega)] at h;exact h,HI.out.low E0⟩
theorem alt_cdp {C fm:Int}{a b:Nat}{hs ks:List Hin}(hf:0<=fm)(h:CdP C (fm+1) a hs)(k:CdP C (fm+(hs.length:Int)+2) b ks) :
 CdP C fm (a+b+2) ((([]++[(⟨2,fm+1,fm+(hs.length:Int)+2,0,none,0,[]⟩:Hin)]++hs)++[(⟨3,fm+(hs.length:Int)+2+(ks.length:Int),0,0,none,0,[]⟩:Hin)])++ks):=by
 have h1:=h.1;have k1:=k.1;refine⟨by simp[h1,k1];omega,fun x hx=>?_⟩;simp only[List.nil_append,List.mem_append,List.mem_singleton] at hx;rcases hx with((rfl|hx)|rfl)|hx
 ·exact .inr (.inl ⟨rfl,by simp only;omega,by simp only;omega,rfl,rfl⟩)
 ·exact(h.2 x hx).mono (by push_cast;omega)
 ·exact .inr (.inr (.inl ⟨rfl,by simp only;omega,rfl,rfl,rfl⟩))
 ·exact(k.2 x hx).mono (by push_cast;omega)
theorem xcode_3g (C:Int)(w0:World)(S:Nat->Prop)(d:Nat)(IH:CodeG C S w0 d):∀(m:Nat) (w:World) (x0:Ext w0 w) (A:Option Addr) (c:Nat) (l:List Sp) (K:Option Addr) (kc:Nat) (ks:List Value) (ts:List Tm) (mn mx md nn:Int) (neg:Bool) (fm:Int)
 (hm:ks.length=m+2) (hkl:ks.length<=kc/\kc<=maxLen) (hcl:CellsAt w0 K (ks.flatMap cellsOf)) (hts:ks.length=ts.length) (hks:∀i (hi:i<ks.length) (hj:i<ts.length),TreeG 3 S w0 d ks[i] ts[i]) (hgd:∀t∈ts,GdT 64 C t) (hf:0<=fm) (hfB:fm+((ts.map szF).sum+2*ts.length-2:Nat)<=100000),
 Calls Tryz.prog 101 #[.agg #[.int .i64 3,.slice A l.length c,.slice K ks.length kc,.int .i64 mn,.int .i64 mx,.int .i64 md,.int .i64 nn,.bool neg],.int .i64 fm] w (RetCg 128 w0 (CdP C fm ((ts.map szF).sum+2*ts.length-2)) w):=by
 intro m;induction m with
 | zero=>
  intro w x0 A c l K kc ks ts mn mx md nn neg fm hm hkl hcl hts hks hgd hf hfB;obtain⟨iI,jI0,jI1,jI2,jI3⟩:=info_parts infoIn;have B0:=Blk.new w 61 #[.int .i64 3,.slice A l.length c,.slice K ks.length kc,.int .i64 mn,.int .i64 mx,.int .i64 md,.int .i64 nn,.bool neg];have E0:=Ext.alloc w (.cells #[.int .i64 3,.slice A l.length c,.slice K ks.length kc,.int .i64 mn,.int .i64 mx,.int .i64 md,.int .i64 nn,.bool neg] 61);have HIH:=lh IH;have HTS:=lh hts;have HGD:=lh hgd;clear hts hgd;have HC:=lh hcl;have HK:=lh hks;have HKL:ks.length<=kc/\kc<=9223372036854775807:=⟨hkl.1,by have:=hkl.2;unfold maxLen at this;omega⟩;have hlt0:(0:Int)<ks.length:=om;have hlt1:(1:Int)<ks.length:=om;have hlt0n:0<ks.length:=om;have hlt1n:1<ks.length:=om;have HM:=lh hm;clear hm;obtain⟨sa,hsa⟩:∃a,a=szF (ts[0]'(HTS.out▸hlt0n)):=⟨_,rfl⟩;obtain⟨sb,hsb⟩:∃b,b=szF (ts[1]'(HTS.out▸hlt1n)):=⟨_,rfl⟩;have HSA:=lh hsa;have HSB:=lh hsb;have HS:Hid ((ts.map szF).sum+2*ts.length-2=sa+sb+2):=lh (by
   have h2:ts.length=2:=by have:=HTS.out;have:=HM.out;omega
   clear hfB;obtain⟨x,y,rfl⟩:∃x y,ts=[x,y]:=by
    match ts,h2 with
    | [x,y],_=>exact⟨x,y,rfl⟩
   simp only[List.getElem_cons_zero,List.getElem_cons_succ] at hsa hsb;simp[hsa,hsb])
  rw[HS.out] at hfB;clear hsa hsb;obtain⟨b,o,hK,n,ht,k0,k1,k2,k3,k4,k5,k6,k7⟩:=kid8xg (x0.trans E0) hcl HTS.out hks hlt0n;obtain⟨b',o',hK',n',ht',j0,j1,j2,j3,j4,j5,j6,j7⟩:=kid8xg (x0.trans E0) hcl HTS.out hks hlt1n;subst hK;injection hK' with hK';injection hK' with e1 e2 _
  subst e1;subst e2;simp only[Nat.zero_mul,Nat.add_zero] at k0 k1 k2 k3 k4 k5 k6 k7;simp only[Nat.one_mul] at j0 j1 j2 j3 j4 j5 j6 j7;have HT:=lh ht;have HT':=lh ht';have ewp:IntKind.i64.wrap (fm+1)=fm+1:=wj;clear hcl hks hkl ht ht';go_enter Tryz.func101,Tryz.ntmps101
  go_upto_region 1 with fail
  obtain⟨gx,hgx⟩:∃gx,gx=w.heap.size:=⟨_,rfl⟩
  rw[<-hgx] at B0 ⊢;clear hgx;generalize w.alloc (.cells #[.int .i64 3,.slice A l.length c,.slice (some ⟨b,o,none⟩) ks.length kc,.int .i64 mn,.int .i64 mx,.int .i64 md,.int .i64 nn,.bool neg] 61)=wa at *;have z0:wa.cell? ⟨gx,0,none⟩=some (.int .i64 3):=B0.cell 0;have z2:wa.cell? ⟨gx,2,none⟩=some (.slice (some ⟨b,o,none⟩) ks.length kc):=B0.cell 2;have X0:=x0.trans E0;have HIA:=lh (HIH.out wa _ _ X0 HT.out (HGD.out _ (List.getElem_mem _)) (fm+1) om (by rw[<-HSA.out];omega))
  rw[<-HSA.out] at HIA
  go_upto_region 14 with(go_at_call 101;refine HIA.out.mono ?_;rintro e w3 ⟨A3,c3,hs3,rfl,hp3,h3⟩)
  have HP3:=lh hp3;have hl3:hs3.length<=sa:=Nat.le_of_eq hp3.1;clear hp3 HIA;have x3:=h3.ext;have HX3:=lh (X0.trans x3);have H3:=lh h3;have hc3:=h3.len;have z23:=x3.cell z2;have j03:=x3.cell j0;have j13:=x3.cell j1;have j23:=x3.cell j2;have j33:=x3.cell j3;have j43:=x3.cell j4;have j53:=x3.cell j5;have j63:=x3.cell j6;have j73:=x3.cell j7;clear h3 k0 k1 k2 k3 k4 k5 k6 k7 j0 j1 j2 j3 j4 j5 j6 j7
  go_upto_region 15 with fail
  have hgt:¬(2:Int)<(ks.length:Int):=by have:=HM.out;omega
  have E8:=Ext.alloc w3 (.cells #[.int .i64 n'.op,.slice n'.A n'.l.length n'.c,.slice n'.K n'.ks.length n'.kc,.int .i64 n'.mn,.int .i64 n'.mx,.int .i64 n'.md,.int .i64 n'.n,.bool n'.neg] 61);have B8:=Blk.new w3 61 #[.int .i64 n'.op,.slice n'.A n'.l.length n'.c,.slice n'.K n'.ks.length n'.kc,.int .i64 n'.mn,.int .i64 n'.mx,.int .i64 n'.md,.int .i64 n'.n,.bool n'.neg];have z2b:=E8.cell z23;obtain⟨g8,hg8⟩:∃g,g=w3.heap.size:=⟨_,rfl⟩
  rw[<-hg8] at B8 ⊢;have hg8w:w3.heap.size<=g8:=om;clear hg8;generalize w3.alloc (.cells #[.int .i64 n'.op,.slice n'.A n'.l.length n'.c,.slice n'.K n'.ks.length n'.kc,.int .i64 n'.mn,.int .i64 n'.mx,.int .i64 n'.md,.int .i64 n'.n,.bool n'.neg] 61)=wb at *;obtain⟨y0,y1,y2,y3,y4,y5,y6,y7⟩:wb.cell? ⟨g8,0,none⟩=some (.int .i64 n'.op)/\wb.cell? ⟨g8,1,none⟩=some (.slice n'.A n'.l.length n'.c)/\wb.cell? ⟨g8,2,none⟩=some (.slice n'.K n'.ks.length n'.kc)/\wb.cell? ⟨g8,3,none⟩=some (.int .i64 n'.mn)/\
   wb.cell? ⟨g8,4,none⟩=some (.int .i64 n'.mx)/\wb.cell? ⟨g8,5,none⟩=some (.int .i64 n'.md)/\wb.cell? ⟨g8,6,none⟩=some (.int .i64 n'.n)/\wb.cell? ⟨g8,7,none⟩=some (.bool n'.neg):=⟨B8.cell 0,B8.cell 1,B8.cell 2,B8.cell 3,B8.cell 4,B8.cell 5,B8.cell 6,B8.cell 7⟩
  go_upto_region 17 with fail
  have xb:=E8;have HREC:=lh (HIH.out wb _ _ (HX3.out.trans E8) HT'.out (HGD.out _ (List.getElem_mem _)) (fm+(hs3.length:Int)+2) om (by rw[<-HSB.out];omega))
  rw[<-HSB.out] at HREC;have ewa:IntKind.i64.wrap (fm+(hs3.length:Int))=fm+(hs3.length:Int):=wj;have ewb:IntKind.i64.wrap (fm+(hs3.length:Int)+2)=fm+(hs3.length:Int)+2:=wj
  go_upto_region 18 with(go_at_call 101;refine(HREC.out.mono ?_);rintro e w4 ⟨A4,c4,hs4,rfl,hp4,h4⟩)
  have HP4:=lh hp4;have hl4:hs4.length<=sb:=Nat.le_of_eq hp4.1;clear hp4;have x4:=h4.ext;have H4:=lh h4;have hc4:=h4.len;have X4:Ext wa w4:=x3.trans (xb.trans x4);have H34:=lh (H3.out.up (xb.trans x4));clear h4 HREC z23;obtain⟨ys5,HY5⟩:∃ys,Hid (ys=[]++[(⟨2,fm+1,fm+(hs3.length:Int)+2,0,none,0,[]⟩:Hin)]):=⟨_,lh rfl⟩;obtain⟨ys6,HY6⟩:∃ys,Hid (ys=ys5++hs3):=⟨_,lh rfl⟩;have hl5:Hid (ys5.length=1):=lh (by rw[HY5.out];rfl);have hl6:Hid (ys6.length=1+hs3.length):=lh (by rw[HY6.out,List.length_append,hl5.out])
  go_upto_region 19 with(first|(at_builtin;refine wpList_appN (w0:=w0) rfl _ _ _ rfl iI Tryz.underlying23 jI0 jI1 jI2 jI3 none 0 [] rfl (CdI.nil (Ext.alloc w4 _)) _ 1 [⟨2,fm+1,fm+(hs3.length:Int)+2,0,none,0,[]⟩] rfl (hin_blk (Blk.new _ _ _)) (fun h hh=>by rw[List.mem_singleton.1 hh];exact HinOk.plain w0 (by simp only[I64];omega)) si ys5 HY5.out ?_;intro A5 c5 w5 h5 x5 hr5 hg5;have H5:=lh h5;have HX5:=lh x5;have x45:=(Ext.alloc w4 _).grown hg5 si)|(at_builtin;refine wpList_appN (w0:=w0) rfl _ _ _ rfl iI Tryz.underlying23 jI0 jI1 jI2 jI3 A5 c5 ys5 rfl H5.out A3 c3 hs3 rfl (OwnS.cells (H34.out.up x45).own) H34.out.ok (by have:=hl5.out;omega) ys6 HY6.out ?_;intro A6 c6 w6 h6 x6 hr6 hg6))
  have H6:=lh h6;have HX6:=lh x6;clear h6 hr6 hg6 hg5 hr5 h5 x5 x45 H5 HX5;have hfL:fm+(hs3.length:Int)+2+(hs4.length:Int)<=1000000:=om;have ewc:IntKind.i64.wrap (fm+(hs3.length:Int)+2+(hs4.length:Int))=fm+(hs3.length:Int)+2+(hs4.length:Int):=wj;obtain⟨ys7,HY7⟩:∃ys,Hid (ys=ys6++[(⟨3,fm+(hs3.length:Int)+2+(hs4.length:Int),0,0,none,0,[]⟩:Hin)]):=⟨_,lh rfl⟩;obtain⟨ys8,HY8⟩:∃ys,Hid (ys=ys7++hs4):=⟨_,lh rfl⟩;have hl7:Hid (ys7.length=2+hs3.length):=lh (by rw[HY7.out,List.length_append,hl6.out];simp;omega);have hl8:Hid (ys8.length=2+hs3.length+hs4.length):=lh (by rw[HY8.out,List.length_append,hl7.out]);have hc6:=H6.out.len
  go_wp2_with (first|(at_builtin;refine wpList_appN (w0:=w0) rfl _ _ _ rfl iI Tryz.underlying23 jI0 jI1 jI2 jI3 A6 c6 ys6 rfl (H6.out.up (Ext.alloc w6 _)) _ 1 [⟨3,fm+(hs3.length:Int)+2+(hs4.length:Int),0,0,none,0,[]⟩] rfl (hin_blk (Blk.new _ _ _)) (fun h hh=>by rw[List.mem_singleton.1 hh];exact HinOk.plain w0 (by simp only[I64];omega)) (by have:=hl6.out;simp only[List.length_singleton];omega) ys7 HY7.out ?_;intro A7 c7 w7 h7 x7 hr7 hg7;have H7:=lh h7;have HX7:=lh x7;clear h7 x7 hr7 hg7)|(at_builtin;refine wpList_appN (w0:=w0) rfl _ _ _ rfl iI Tryz.underlying23 jI0 jI1 jI2 jI3 A7 c7 ys7 rfl H7.out A4 c4 hs4 rfl (OwnS.cells (H4.out.up HX7.out).own) H4.out.ok (by have:=hl7.out;omega) ys8 HY8.out ?_;intro A9 c9 w9 h9 x9 hr9 hg9))
  go_ret
  exact⟨A9,c9,ys8,rfl,by rw[HS.out,HY8.out,HY7.out,HY6.out,HY5.out];exact alt_cdp hf HP3.out HP4.out,(h9.low X4).low E0⟩
 | succ m ih=>
  intro w x0 A c l K kc ks ts mn mx md nn neg fm hm hkl hcl hts hks hgd hf hfB;obtain⟨iI,jI0,jI1,jI2,jI3⟩:=info_parts infoIn;have B0:=Blk.new w 61 #[.int .i64 3,.slice A l.length c,.slice K ks.length kc,.int .i64 mn,.int .i64 mx,.int .i64 md,.int .i64 nn,.bool neg];have E0:=Ext.alloc w (.cells #[.int .i64 3,.slice A l.length c,.slice K ks.length kc,.int .i64 mn,.int .i64 mx,.int .i64 md,.int .i64 nn,.bool neg] 61);have HIH:=lh IH;have HTS:=lh hts;have HGD:=lh hgd;clear hts hgd;have HIM:=lh ih;clear ih;have HC:=lh hcl;have HK:=lh hks;have HKL:ks.length<=kc/\kc<=9223372036854775807:=⟨hkl.1,by have:=hkl.2;unfold maxLen at this;omega⟩;have hlt0:(0:Int)<ks.length:=om;have hlt1:(1:Int)<ks.length:=om;have hlt0n:0<ks.length:=om;have hlt1n:1<ks.length:=om;have HM:=lh hm;clear hm;obtain⟨tt,HTT⟩:∃tt,Hid (tt=ts.tail):=⟨_,lh rfl⟩;obtain⟨sa,hsa⟩:∃a,a=szF (ts[0]'(HTS.out▸hlt0n)):=⟨_,rfl⟩;obtain⟨sb,hsb⟩:∃b,b=(tt.map szF).sum+2*tt.length-2:=⟨_,rfl⟩;have HSA:=lh hsa;have HSB:=lh hsb;have HS:Hid ((ts.map szF).sum+2*ts.length-2=sa+sb+2):=lh (by
   have h2:ts.length=m+1+2:=by have:=HTS.out;have:=HM.out;omega
   have e:=HTT.out;clear hfB;obtain⟨x,y,rfl⟩:∃x y,ts=x::y:=by
    match ts,h2 with
    | x::y,_=>exact⟨x,y,rfl⟩
   simp only[List.tail_cons] at e;subst e;simp only[List.getElem_cons_zero] at hsa;simp only[List.length_cons] at h2;simp only[List.map_cons,List.sum_cons,List.length_cons];omega)
  rw[HS.out] at hfB;clear hsa hsb;obtain⟨b,o,hK,n,ht,k0,k1,k2,k3,k4,k5,k6,k7⟩:=kid8xg (x0.trans E0) hcl HTS.out hks hlt0n;obtain⟨b',o',hK',n',ht',j0,j1,j2,j3,j4,j5,j6,j7⟩:=kid8xg (x0.trans E0) hcl HTS.out hks hlt1n;subst hK;injection hK' with hK';injection hK' with e1 e2 _
  subst e1;subst e2;simp only[Nat.zero_mul,Nat.add_zero] at k0 k1 k2 k3 k4 k5 k6 k7;simp only[Nat.one_mul] at j0 j1 j2 j3 j4 j5 j6 j7;have HT:=lh ht;have HT':=lh ht';have ewp:IntKind.i64.wrap (fm+1)=fm+1:=wj;clear hcl hks hkl ht ht';go_enter Tryz.func101,Tryz.ntmps101
  go_upto_region 1 with fail
  obtain⟨gx,hgx⟩:∃gx,gx=w.heap.size:=⟨_,rfl⟩
  rw[<-hgx] at B0 ⊢;clear hgx;generalize w.alloc (.cells #[.int .i64 3,.slice A l.length c,.slice (some ⟨b,o,none⟩) ks.length kc,.int .i64 mn,.int .i64 mx,.int .i64 md,.int .i64 nn,.bool neg] 61)=wa at *;have z0:wa.cell? ⟨gx,0,none⟩=some (.int .i64 3):=B0.cell 0;have z2:wa.cell? ⟨gx,2,none⟩=some (.slice (some ⟨b,o,none⟩) ks.length kc):=B0.cell 2;have X0:=x0.trans E0;have HIA:=lh (HIH.out wa _ _ X0 HT.out (HGD.out _ (List.getElem_mem _)) (fm+1) om (by rw[<-HSA.out];omega))
  rw[<-HSA.out] at HIA
  go_upto_region 14 with(go_at_call 101;refine HIA.out.mono ?_;rintro e w3 ⟨A3,c3,hs3,rfl,hp3,h3⟩)
  have HP3:=lh hp3;have hl3:hs3.length<=sa:=Nat.le_of_eq hp3.1;clear hp3 HIA;have x3:=h3.ext;have HX3:=lh (X0.trans x3);have H3:=lh h3;have hc3:=h3.len;have z23:=x3.cell z2;have j03:=x3.cell j0;have j13:=x3.cell j1;have j23:=x3.cell j2;have j33:=x3.cell j3;have j43:=x3.cell j4;have j53:=x3.cell j5;have j63:=x3.cell j6;have j73:=x3.cell j7;clear h3 k0 k1 k2 k3 k4 k5 k6 k7 j0 j1 j2 j3 j4 j5 j6 j7
  go_upto_region 15 with fail
  have hgt:(2:Int)<(ks.length:Int):=by have:=HM.out;omega
  have E8:=Ext.alloc w3 (.cells #[.int .i64 n'.op,.slice n'.A n'.l.length n'.c,.slice n'.K n'.ks.length n'.kc,.int .i64 n'.mn,.int .i64 n'.mx,.int .i64 n'.md,.int .i64 n'.n,.bool n'.neg] 61);have B8:=Blk.new w3 61 #[.int .i64 n'.op,.slice n'.A n'.l.length n'.c,.slice n'.K n'.ks.length n'.kc,.int .i64 n'.mn,.int .i64 n'.mx,.int .i64 n'.md,.int .i64 n'.n,.bool n'.neg];have z2b:=E8.cell z23;obtain⟨g8,hg8⟩:∃g,g=w3.heap.size:=⟨_,rfl⟩
  rw[<-hg8] at B8 ⊢;have hg8w:w3.heap.size<=g8:=om;clear hg8;generalize w3.alloc (.cells #[.int .i64 n'.op,.slice n'.A n'.l.length n'.c,.slice n'.K n'.ks.length n'.kc,.int .i64 n'.mn,.int .i64 n'.mx,.int .i64 n'.md,.int .i64 n'.n,.bool n'.neg] 61)=wb at *;obtain⟨y0,y1,y2,y3,y4,y5,y6,y7⟩:wb.cell? ⟨g8,0,none⟩=some (.int .i64 n'.op)/\wb.cell? ⟨g8,1,none⟩=some (.slice n'.A n'.l.length n'.c)/\wb.cell? ⟨g8,2,none⟩=some (.slice n'.K n'.ks.length n'.kc)/\wb.cell? ⟨g8,3,none⟩=some (.int .i64 n'.mn)/\
   wb.cell? ⟨g8,4,none⟩=some (.int .i64 n'.mx)/\wb.cell? ⟨g8,5,none⟩=some (.int .i64 n'.md)/\wb.cell? ⟨g8,6,none⟩=some (.int .i64 n'.n)/\wb.cell? ⟨g8,7,none⟩=some (.bool n'.neg):=⟨B8.cell 0,B8.cell 1,B8.cell 2,B8.cell 3,B8.cell 4,B8.cell 5,B8.cell 6,B8.cell 7⟩
  obtain⟨f0,f1,f2,f3,f4,f5,f6,f7⟩:=nd_frz B8
  go_upto_region 17 with fail
  obtain⟨kt,HKT⟩:∃kt,Hid (kt=ks.tail):=⟨_,lh rfl⟩;have elt:ks.length-1=kt.length:=by rw[HKT.out];simp
  rw[elt];have HEL:=lh elt;clear elt;have hb9:=setRe_blk B8 (⟨3,none,0,[],some ⟨b,o+8,none⟩,kc-1,kt,0,0,0,0,false⟩:Nd);have hx9:=setRe_ext (a:=w3) E8 om (⟨3,none,0,[],some ⟨b,o+8,none⟩,kc-1,kt,0,0,0,0,false⟩:Nd);change Code.wp _ _ _ _ (setRe wb g8 (⟨3,none,0,[],some ⟨b,o+8,none⟩,kc-1,kt,0,0,0,0,false⟩:Nd));clear y0 y1 y2 y3 y4 y5 y6 y7 f0 f1 f2 f3 f4 f5 f6 f7 z2b;generalize setRe wb g8 (⟨3,none,0,[],some ⟨b,o+8,none⟩,kc-1,kt,0,0,0,0,false⟩:Nd)=wc at *;clear E8 B8;obtain⟨y0,y1,y2,y3,y4,y5,y6,y7⟩:=nd_cells hb9
  try simp only[List.length_nil] at y1
  have xb:=hx9;have hmm:ks.length=m+1+2:=HM.out;have hmm2:kt.length=m+2:=by have:=HEL.out;omega
  have HREK:∀i (hi:i<kt.length) (hj:i<tt.length),TreeG 3 S w0 d kt[i] tt[i]:=fun i hi hj=>by
   have h1:kt[i]=ks[i+1]'(by rw[HKT.out,List.length_tail] at hi;omega):=by simp only[HKT.out,List.getElem_tail]
   have h2:tt[i]=ts[i+1]'(by rw[HTT.out,List.length_tail] at hj;omega):=by simp only[HTT.out,List.getElem_tail]
   rw[h1,h2];exact HK.out (i+1) _ _
  have HREC:=lh (HIM.out wc (HX3.out.trans xb) none 0 [] (some ⟨b,o+8,none⟩) (kc-1) kt tt 0 0 0 0 false (fm+(hs3.length:Int)+2) hmm2 (by have:=HEL.out;have:=HKL;unfold maxLen;omega) (cells_tail HC.out (fun u hu=>by obtain⟨j,hj,rfl⟩:=List.getElem_of_mem hu;exact⟨_,HK.out j hj (by rw[<-HTS.out];exact hj)⟩) HKT.out (by intro e;rw[e] at hmm;simp at hmm)) (by rw[HKT.out,HTT.out,List.length_tail,List.length_tail,HTS.out]) (fun i hi hj=>HREK i hi hj) (fun t ht=>HGD.out t (by rw[HTT.out] at ht;exact List.mem_of_mem_tail ht)) om (by rw[<-HSB.out];omega))
  rw[<-HSB.out] at HREC;clear hmm hmm2;simp only[List.length_nil] at HREC;have ewa:IntKind.i64.wrap (fm+(hs3.length:Int))=fm+(hs3.length:Int):=wj;have ewb:IntKind.i64.wrap (fm+(hs3.length:Int)+2)=fm+(hs3.length:Int)+2:=wj
  go_upto_region 18 with(go_at_call 101;refine(HREC.out.mono ?_);rintro e w4 ⟨A4,c4,hs4,rfl,hp4,h4⟩)
  have HP4:=lh hp4;have hl4:hs4.length<=sb:=Nat.le_of_eq hp4.1;clear hp4;have x4:=h4.ext;have H4:=lh h4;have hc4:=h4.len;have X4:Ext wa w4:=x3.trans (xb.trans x4);have H34:=lh (H3.out.up (xb.trans x4));clear h4 HREC z23;obtain⟨ys5,HY5⟩:∃ys,Hid (ys=[]++[(⟨2,fm+1,fm+(hs3.length:Int)+2,0,none,0,[]⟩:Hin)]):=⟨_,lh rfl⟩;obtain⟨ys6,HY6⟩:∃ys,Hid (ys=ys5++hs3):=⟨_,lh rfl⟩;have hl5:Hid (ys5.length=1):=lh (by rw[HY5.out];rfl);have hl6:Hid (ys6.length=1+hs3.length):=lh (by rw[HY6.out,List.length_append,hl5.out])
  go_upto_region 19 with(first|(at_builtin;refine wpList_appN (w0:=w0) rfl _ _ _ rfl iI Tryz.underlying23 jI0 jI1 jI2 jI3 none 0 [] rfl (CdI.nil (Ext.alloc w4 _)) _ 1 [⟨2,fm+1,fm+(hs3.length:Int)+2,0,none,0,[]⟩] rfl (hin_blk (Blk.new _ _ _)) (fun h hh=>by rw[List.mem_singleton.1 hh];exact HinOk.plain w0 (by simp only[I64];omega)) si ys5 HY5.out ?_;intro A5 c5 w5 h5 x5 hr5 hg5;have H5:=lh h5;have HX5:=lh x5;have x45:=(Ext.alloc w4 _).grown hg5 si)|(at_builtin;refine wpList_appN (w0:=w0) rfl _ _ _ rfl iI Tryz.underlying23 jI0 jI1 jI2 jI3 A5 c5 ys5 rfl H5.out A3 c3 hs3 rfl (OwnS.cells (H34.out.up x45).own) H34.out.ok (by have:=hl5.out;omega) ys6 HY6.out ?_;intro A6 c6 w6 h6 x6 hr6 hg6))
  have H6:=lh h6;have HX6:=lh x6;clear h6 hr6 hg6 hg5 hr5 h5 x5 x45 H5 HX5;have hfL:fm+(hs3.length:Int)+2+(hs4.length:Int)<=1000000:=om;have ewc:IntKind.i64.wrap (fm+(hs3.length:Int)+2+(hs4.length:Int))=fm+(hs3.length:Int)+2+(hs4.length:Int):=wj;obtain⟨ys7,HY7⟩:∃ys,Hid (ys=ys6++[(⟨3,fm+(hs3.length:Int)+2+(hs4.length:Int),0,0,none,0,[]⟩:Hin)]):=⟨_,lh rfl⟩;obtain⟨ys8,HY8⟩:∃ys,Hid (ys=ys7++hs4):=⟨_,lh rfl⟩;have hl7:Hid (ys7.length=2+hs3.length):=lh (by rw[HY7.out,List.length_append,hl6.out];simp;omega);have hl8:Hid (ys8.length=2+hs3.length+hs4.length):=lh (by rw[HY8.out,List.length_append,hl7.out]);have hc6:=H6.out.len
  go_wp2_with (first|(at_builtin;refine wpList_appN (w0:=w0) rfl _ _ _ rfl iI Tryz.underlying23 jI0 jI1 jI2 jI3 A6 c6 ys6 rfl (H6.out.up (Ext.alloc w6 _)) _ 1 [⟨3,fm+(hs3.length:Int)+2+(hs4.length:Int),0,0,none,0,[]⟩] rfl (hin_blk (Blk.new _ _ _)) (fun h hh=>by rw[List.mem_singleton.1 hh];exact HinOk.plain w0 (by simp only[I64];omega)) (by have:=hl6.out;simp only[List.length_singleton];omega) ys7 HY7.out ?_;intro A7 c7 w7 h7 x7 hr7 hg7;have H7:=lh h7;have HX7:=lh x7;clear h7 x7 hr7 hg7)|(at_builtin;refine wpList_appN (w0:=w0) rfl _ _ _ rfl iI Tryz.underlying23 jI0 jI1 jI2 jI3 A7 c7 ys7 rfl H7.out A4 c4 hs4 rfl (OwnS.cells (H4.out.up HX7.out).own) H4.out.ok (by have:=hl7.out;omega) ys8 HY8.out ?_;intro A9 c9 w9 h9 x9 hr9 hg9))
  go_ret
  exact⟨A9,c9,ys8,rfl,by rw[HS.out,HY8.out,HY7.out,HY6.out,HY5.out];exact alt_cdp hf HP3.out HP4.out,(h9.low X4).low E0⟩
theorem cap_cdp {C fm nn:Int}{a:Nat}{hs:List Hin}(hn:1<=nn/\nn<=C)(h:CdP C (fm+1) a hs):CdP C fm (a+2) (([]++[(⟨4,0,0,2*nn-2,none,0,[]⟩:Hin)]++hs)++[(⟨4,0,0,2*nn-1,none,0,[]⟩:Hin)]):=by
 have h1:=h.1;refine⟨by simp[h1],fun x hx=>?_⟩;simp only[List.nil_append,List.mem_append,List.mem_singleton] at hx;rcases hx with(rfl|hx)|rfl
 ·exact .inr (.inr (.inr ⟨rfl,rfl,rfl,by simp only;omega,rfl⟩))
 ·exact(h.2 x hx).mono (by push_cast;omega)
 ·exact .inr (.inr (.inr ⟨rfl,rfl,rfl,by simp only;omega,rfl⟩))
theorem xcode_5g (C:Int)(w0:World)(S:Nat->Prop)(d:Nat)(IH:CodeG C S w0 d)(w:World)(x0:Ext w0 w)(A:Option Addr)(c:Nat)(l:List Sp)(K:Option Addr)(kc:Nat)(ks:List Value)(ts:List Tm)(mn mx md nn:Int)(neg:Bool)(fm:Int)(sa:Nat)
 (hn:1<=nn/\nn<=C) (hC:C<=9) (h1k:1<=ks.length) (hkl:ks.length<=kc/\kc<=maxLen) (hcl:CellsAt w0 K (ks.flatMap cellsOf)) (hts:ks.length=ts.length) (hks:∀i (hi:i<ks.length) (hj:i<ts.length),TreeG 3 S w0 d ks[i] ts[i]) (hgd:∀t∈ts,GdT 64 C t) (hsa:∀(h:0<ts.length),sa=szF ts[0]) (hf:0<=fm) (hfB:fm+(sa+2:Nat)<=100000) :
 Calls Tryz.prog 101 #[.agg #[.int .i64 5,.slice A l.length c,.slice K ks.length kc,.int .i64 mn,.int .i64 mx,.int .i64 md,.int .i64 nn,.bool neg],.int .i64 fm] w (RetCg 128 w0 (CdP C fm (sa+2)) w):=by
 obtain⟨iI,jI0,jI1,jI2,jI3⟩:=info_parts infoIn;have HTS:=lh hts;clear hts;have B0:=Blk.new w 61 #[.int .i64 5,.slice A l.length c,.slice K ks.length kc,.int .i64 mn,.int .i64 mx,.int .i64 md,.int .i64 nn,.bool neg];have E0:=Ext.alloc w (.cells #[.int .i64 5,.slice A l.length c,.slice K ks.length kc,.int .i64 mn,.int .i64 mx,.int .i64 md,.int .i64 nn,.bool neg] 61);have HIH:=lh IH;have HKL:ks.length<=kc/\kc<=9223372036854775807:=⟨hkl.1,by have:=hkl.2;unfold maxLen at this;omega⟩;have hlt0:(0:Int)<ks.length:=om;have hlt0n:0<ks.length:=om;obtain⟨b,o,hK,n,ht,k0,k1,k2,k3,k4,k5,k6,k7⟩:=kid8xg (x0.trans E0) hcl HTS.out hks (i:=0) om;subst hK;simp only[Nat.zero_mul,Nat.add_zero] at k0 k1 k2 k3 k4 k5 k6 k7;have HT:=lh ht;have HSA:=lh (hsa (HTS.out▸hlt0n));have HG0:=lh (hgd _ (List.getElem_mem (HTS.out▸hlt0n)));have ewp:IntKind.i64.wrap (fm+1)=fm+1:=wj;have ew1:IntKind.i64.wrap (2*nn)=2*nn:=wj;have ew2:IntKind.i64.wrap (2*nn-2)=2*nn-2:=wj;have ew3:IntKind.i64.wrap (2*nn-1)=2*nn-1:=wj;clear hcl hks hkl ht IH h1k hsa hgd;go_enter Tryz.func101,Tryz.ntmps101
 go_upto_region 1 with fail
 obtain⟨gx,hgx⟩:∃gx,gx=w.heap.size:=⟨_,rfl⟩
 rw[<-hgx] at B0 ⊢;clear hgx;generalize w.alloc (.cells #[.int .i64 5,.slice A l.length c,.slice (some ⟨b,o,none⟩) ks.length kc,.int .i64 mn,.int .i64 mx,.int .i64 md,.int .i64 nn,.bool neg] 61)=wa at *;have X0:=x0.trans E0;have HX0:=lh X0;have z0:wa.cell? ⟨gx,0,none⟩=some (.int .i64 5):=B0.cell 0;have z2:wa.cell? ⟨gx,2,none⟩=some (.slice (some ⟨b,o,none⟩) ks.length kc):=B0.cell 2;have z6:wa.cell? ⟨gx,6,none⟩=some (.int .i64 nn):=B0.cell 6;have HE0:=lh E0
 go_upto_region 21 with fail
 have q2:=kc0 z2;have q6:=kc0 z6;have qk0:=kc0 k0;have qk1:=kc0 k1;have qk2:=kc0 k2;have qk3:=kc0 k3;have qk4:=kc0 k4;have qk5:=kc0 k5;have qk6:=kc0 k6;have qk7:=kc0 k7;obtain⟨ys9,HY9⟩:∃ys,Hid (ys=[]++[(⟨4,0,0,2*nn-2,none,0,[]⟩:Hin)]):=⟨_,lh rfl⟩;have hl9:Hid (ys9.length=1):=lh (by rw[HY9.out];rfl);refine Xr.start [] kr ?_;refine Xtk 0 ?_
 iterate 5(refine Xtn ?_)
 refine Xtk 8 ?_
 iterate 5(refine Xtn ?_)
 refine Xr.lazy 6 108 7 (fun g=>.slice (some ⟨g,0,none⟩) 1 1) 128 #[.int .i64 4,.int .i64 0,.int .i64 0,.int .i64 (2*nn-2),.slice none 0 0] rfl si dK si (fun w'=>by go_simp) ?_;refine Xr.stepZ rfl dK (fun _=>by rfl) (fun w4 g6 hE4 hK4 hg6 hB6 hno K hKK=>?_);refine wp_appN (w0:=w0) (base:=wa) _ _ _ rfl iI Tryz.underlying23 jI0 jI1 jI2 jI3 none 0 [] rfl (CdI.nil hK4.nil) _ 1 [⟨4,0,0,2*nn-2,none,0,[]⟩] rfl (hin_blk hB6) (fun h hh=>by rw[List.mem_singleton.1 hh];exact HinOk.plain w0 (by simp only[I64];omega)) si ys9 HY9.out ?_;intro A7 c7 w7 h7 hr7 hg7 hat7;have x47:Ext w4 w7:=(Ext.rfl' w4).grown hg7 si;refine hKK _ _ (KpP.of_ext x47) (hK4.ext x47) ?_;clear hKK;refine ptm ?_;refine Xcl 14 fun w10 hE10 hK10 K hKK=>?_;go_simp;have HIA:=lh (HIH.out w10 _ _ (HX0.out.trans hK10.nil) HT.out HG0.out (fm+1) om (by rw[<-HSA.out];omega))
 rw[<-HSA.out] at HIA;refine HIA.out.mono ?_;rintro e w11 ⟨A14,c14,hs14,rfl,hp14,h14⟩;have HP14:=lh hp14;have hl14:hs14.length<=sa:=Nat.le_of_eq hp14.1;clear hp14;refine hKK _ _ h14.ext ?_;clear hKK;refine ptm ?_;have x1011:=h14.ext;obtain⟨ys10,HY10⟩:∃ys,Hid (ys=ys9++hs14):=⟨_,lh rfl⟩;have hl10:Hid (ys10.length=1+hs14.length):=lh (by rw[HY10.out,List.length_append,hl9.out]);have hup7:∀k,A7.map (·.block)=some k->k<w7.heap.size:=fun k hk=>(OwnS.blt h7.own hk).1;refine Xsp 15 fun w12 hE12 hK12 K hKK=>?_;refine wp_appN (w0:=w0) (base:=wa) _ _ _ rfl iI Tryz.underlying23 jI0 jI1 jI2 jI3 A7 c7 ys9 rfl (h7.up (hE10.trans (x1011.trans hE12))) A14 c14 hs14 rfl (OwnS.cells (h14.up hE12).own) h14.ok (by have:=hl9.out;omega) ys10 HY10.out ?_;intro A15 c15 w15 h15 hr15 hg15 hat15;refine hKK _ _ (WI_grown hg15 (fun i hi=>.inr ⟨(w4.heap.size,w7.heap.size),by simp,by rcases hat7 with h|h<;>rw[h] at hi<;>simp at hi;omega,hup7 i hi⟩)) (Kp.of_ext h15.ext) ?_;clear hKK;refine ptm ?_;refine Xtk 16 ?_;refine Xdn fun w16 hE16 hK16=>?_;have H16:=lh (h15.up hE16);have z6c:=q6 w16 hK16;clear h15 hg15 hr15 hat15 h14 h7 hg7 hr7 hat7 x47 hE4 hK4 hE10 hK10 hE12 hK12 hup7;have hc16:=H16.out.len;obtain⟨ys11,HY11⟩:∃ys,Hid (ys=ys10++[(⟨4,0,0,2*nn-1,none,0,[]⟩:Hin)]):=⟨_,lh rfl⟩;have hl11:Hid (ys11.length=2+hs14.length):=lh (by rw[HY11.out,List.length_append,hl10.out];simp;omega)
 go_wp2_with (at_builtin;refine wpList_appN (w0:=w0) rfl _ _ _ rfl iI Tryz.underlying23 jI0 jI1 jI2 jI3 A15 c15 ys10 rfl (H16.out.up (Ext.alloc w16 _)) _ 1 [⟨4,0,0,2*nn-1,none,0,[]⟩] rfl (hin_blk (Blk.new _ _ _)) (fun h hh=>by rw[List.mem_singleton.1 hh];exact HinOk.plain w0 (by simp only[I64];omega)) (by have:=hl10.out;simp only[List.length_singleton];omega) ys11 HY11.out ?_;intro A17 c17 w17 h17 x17 hr17 hg17)
 go_ret
 exact⟨A17,c17,ys11,rfl,by rw[HY11.out,HY10.out,HY9.out];exact cap_cdp hn HP14.out,h17.low HE0.out⟩
theorem rep_cdp {C fm x y:Int}{a n:Nat}{hs ks:List Hin}(hf:0<=fm)(hxy:(x=fm+(hs.length:Int)+(ks.length:Int)+2/\y=fm+(hs.length:Int)+1)\/(x=fm+(hs.length:Int)+1/\y=fm+(hs.length:Int)+(ks.length:Int)+2))(h:CdP C fm n hs)(k:CdP C (fm+(hs.length:Int)+1) a ks) :
 CdP C fm (n+a+2) ((hs++[(⟨2,x,y,0,none,0,[]⟩:Hin)]++ks)++[(⟨3,fm+(hs.length:Int),0,0,none,0,[]⟩:Hin)]):=by
 have h1:=h.1;have k1:=k.1;refine⟨by simp[h1,k1];omega,fun z hz=>?_⟩;simp only[List.mem_append,List.mem_singleton] at hz;rcases hz with((hz|rfl)|hz)|rfl
 ·exact(h.2 z hz).mono (by push_cast;omega)
 ·exact .inr (.inl ⟨rfl,by simp only;omega,by simp only;omega,rfl,rfl⟩)
 ·exact(k.2 z hz).mono (by push_cast;omega)
 ·exact .inr (.inr (.inl ⟨rfl,by simp only;omega,rfl,rfl,rfl⟩))
theorem rep_step {C fm x y en:Int}{a i k N:Nat}{hs ks:List Hin}(hf:0<=fm)(hxy:(x=en/\y=fm+(hs.length:Int)+1)\/(x=fm+(hs.length:Int)+1/\y=en))(he:en=fm+(N:Int))(hik:i<=k)(hq:hs.length+1+a<=N)(h:hs.length=k*a+(k-i)/\∀z∈hs,VI C (fm+(N:Int)) z)(g:CdP C (fm+(hs.length:Int)+1) a ks) :
 ((hs++[(⟨2,x,y,0,none,0,[]⟩:Hin)])++ks).length=(k+1)*a+(k+1-i)/\∀z∈(hs++[(⟨2,x,y,0,none,0,[]⟩:Hin)])++ks,VI C (fm+(N:Int)) z:=by
 have h1:=h.1;have k1:=g.1;have hs1:=Nat.add_one_mul k a;refine⟨by simp only[List.length_append,List.length_singleton];omega,fun z hz=>?_⟩;simp only[List.mem_append,List.mem_singleton] at hz;rcases hz with(hz|rfl)|hz
 ·exact h.2 z hz
 ·exact .inr (.inl ⟨rfl,by simp only;omega,by simp only;omega,rfl,rfl⟩)
 ·exact(g.2 z hz).mono om
theorem C6gz1 {P:Prop} (h:P:=by
 have H6:=lh h6;have z26:=x6.cell z2;obtain⟨b',o',hK',n,ht,k0,k1,k2,k3,k4,k5,k6,k7⟩:=kid8xg (HX0.out.trans x6) HC.out HTS.out HK.out hlt0n;injection hK' with hK';injection hK' with e1 e2 _
 subst e1;subst e2;simp only[Nat.zero_mul,Nat.add_zero] at k0 k1 k2 k3 k4 k5 k6 k7;have HT:=lh ht;have HX6:=lh (HX0.out.trans x6);have HX16:=lh x6;clear ht h6 x6 hr6 hg6 y0 y1 y2 y3 y4 bn HIn;have hc6:=H6.out.len
 go_wp2_with (first|(go_at_call 101;refine(HIH.out w6 _ _ HX6.out HT.out HG0.out (fm+(hs.length:Int)+1) om (by rw[<-HSA.out];omega)).mono ?_;rintro e w7 ⟨A7,c7,hs7,rfl,hp7,h7⟩;have HP7:=lh hp7;have hl7:hs7.length<=sa:=(by have:=hp7.1;rw[<-HSA.out] at this;omega);clear hp7;have H7:=lh h7;have hc7:=h7.len;have x7:=h7.ext;clear h7)|(at_builtin;obtain⟨ys2,HY2⟩:∃ys,Hid (ys=ys1++hs7):=⟨_,lh rfl⟩;refine wpList_appN rfl _ _ _ rfl iI Tryz.underlying23 jI0 jI1 jI2 jI3 A6 c6 ys1 rfl (H6.out.up x7) A7 c7 hs7 rfl (OwnS.cells H7.out.own) H7.out.ok (by have:=hl1.out;omega) ys2 HY2.out ?_;intro A8 c8 w8 h8 x8 hr8 hg8;have H8:=lh h8;have HX8:=lh x8;clear h8 hg8 hr8 x8))
 go_roundw
 case rel=>exact⟨k+1,A8,c8,ys2,by go_num,rfl,om,om,lh (by
  rw[HY2.out,HY1.out];have h:=HP7.out
  rw[<-HSA.out] at h;exact rep_step hf (by first|exact .inl ⟨rfl,rfl⟩|exact .inr ⟨rfl,rfl⟩) HEN.out hik hq HLEN.out h),HX8.out,H8⟩
 case measure=>simp[intOf];omega):P:=h
theorem C6gz2 {P:Prop} (h:P:=by
 have H7:=lh h7;have hc7:=h7.len;clear h7 x7 hr7 hg7 H6 HG6 HIn H8n y0 y1 y2 y3 y4 bn
 go_wp2_with (at_builtin;refine wpList_appN (w0:=w0) rfl _ _ _ rfl iI Tryz.underlying23 jI0 jI1 jI2 jI3 A7 c7 ys2 rfl (H7.out.up (Ext.alloc w7 _)) _ 1 [⟨3,fm+(hs.length:Int),0,0,none,0,[]⟩] rfl (hin_blk (Blk.new _ _ _)) (fun h hh=>by rw[List.mem_singleton.1 hh];exact HinOk.plain w0 (by simp only[I64];omega)) (by have:=hl2.out;simp only[List.length_singleton];omega) ys3 HY3.out ?_;intro A9 c9 w9 h9 x9 hr9 hg9)
 go_ret
 exact⟨A9,c9,ys3,rfl,by rw[HY3.out,HY2.out,HY1.out,HNE.out];exact rep_cdp hf (by first|exact .inl ⟨rfl,rfl⟩|exact .inr ⟨rfl,rfl⟩) HLM.out HP8.out,h9.low HE0.out⟩):P:=h
theorem xrep_g (C:Int)(w0:World)(S:Nat->Prop)(d:Nat)(IH:CodeG C S w0 d)(w:World)(x0:Ext w0 w)(A:Option Addr)(c:Nat)(l:List Sp)(K:Option Addr)(kc:Nat)(ks:List Value)(ts:List Tm)(T4:Tm)(m:Nat)(mx md nn:Int)(neg:Bool)(fm:Int)(sa N:Nat)(hd:d+1<=6)
 (ht4:TreeG 3 S w0 (d+1) (.agg #[.int .i64 4,.slice A l.length c,.slice K ks.length kc,.int .i64 (m:Int),.int .i64 mx,.int .i64 md,.int .i64 nn,.bool neg]) T4) (hg4:GdT 64 C T4) (hN4:szF T4=N) (h1k:1<=ks.length) (hm:m<=2) (hmx : -1<=mx/\mx<=3) (hmd:0<=md/\md<=1) (hkl:ks.length<=kc/\kc<=maxLen) (hcl:CellsAt w0 K (ks.flatMap cellsOf))
 (hts:ks.length=ts.length) (hks:∀i (hi:i<ks.length) (hj:i<ts.length),TreeG 3 S w0 d ks[i] ts[i]) (hgd:∀t∈ts,GdT 64 C t) (hsa:∀(h:0<ts.length),sa=szF ts[0]) (hN1:mx = -1->N=m*sa+sa+2) (hN2:∀q:Nat,mx=q->m<=q/\N=q*sa+(q-m)) (hf:0<=fm) (hfB:fm+(N:Nat)<=100000) :
 Calls Tryz.prog 184 #[.agg #[.int .i64 4,.slice A l.length c,.slice K ks.length kc,.int .i64 (m:Int),.int .i64 mx,.int .i64 md,.int .i64 nn,.bool neg],.int .i64 fm] w (RetCg 128 w0 (CdP C fm N) w):=by
 obtain⟨iI,jI0,jI1,jI2,jI3⟩:=info_parts infoIn;have HTS:=lh hts;clear hts;have HG4:=lh hg4;have HN4:=lh hN4;have HN1:=lh hN1;have HN2:=lh hN2;have hsz:N<=1456:=by rw[<-hN4];exact Nat.le_trans (szF_le ht4 hg4) (szB_le hd)
 clear hg4 hN4 hN1 hN2;have B0:=Blk.new w 61 #[.int .i64 4,.slice A l.length c,.slice K ks.length kc,.int .i64 (m:Int),.int .i64 mx,.int .i64 md,.int .i64 nn,.bool neg];have E0:=Ext.alloc w (.cells #[.int .i64 4,.slice A l.length c,.slice K ks.length kc,.int .i64 (m:Int),.int .i64 mx,.int .i64 md,.int .i64 nn,.bool neg] 61);have HIH:=lh IH;have HC:=lh hcl;have HK:=lh hks;have HT4:=lh ht4;have HKL:ks.length<=kc/\kc<=9223372036854775807:=⟨hkl.1,by have:=hkl.2;unfold maxLen at this;omega⟩;have hlt0:(0:Int)<ks.length:=om;have hlt0n:0<ks.length:=om;have HSA:=lh (hsa (HTS.out▸hlt0n));have HG0:=lh (hgd _ (List.getElem_mem (HTS.out▸hlt0n)));have hsn:sa<=1456:=by rw[HSA.out];exact Nat.le_trans (szF_le (hks 0 hlt0n (HTS.out▸hlt0n)) HG0.out) (szB_le om)
 obtain⟨b,o,hK⟩:∃b o,K=some ⟨b,o,none⟩:=by
  obtain⟨b,o,hK,_⟩:=kid8xg (x0.trans E0) hcl HTS.out hks (i:=0) om;exact⟨b,o,hK⟩
 subst hK;clear hcl hks hkl IH h1k ht4 hsa hgd;go_enter Tryz.func184,Tryz.ntmps184
 go_upto_region 1 with fail
 obtain⟨gx,hgx⟩:∃gx,gx=w.heap.size:=⟨_,rfl⟩
 rw[<-hgx] at B0 ⊢;clear hgx;generalize w.alloc (.cells #[.int .i64 4,.slice A l.length c,.slice (some ⟨b,o,none⟩) ks.length kc,.int .i64 (m:Int),.int .i64 mx,.int .i64 md,.int .i64 nn,.bool neg] 61)=wa at *;have X0:=x0.trans E0;have HX0:=lh X0;have z2:wa.cell? ⟨gx,2,none⟩=some (.slice (some ⟨b,o,none⟩) ks.length kc):=B0.cell 2;have z3:wa.cell? ⟨gx,3,none⟩=some (.int .i64 (m:Int)):=B0.cell 3;have z4:wa.cell? ⟨gx,4,none⟩=some (.int .i64 mx):=B0.cell 4;have z5:wa.cell? ⟨gx,5,none⟩=some (.int .i64 md):=B0.cell 5;have HB0:=lh B0;have HE0:=lh E0;clear B0 E0 X0
 go_upto_region 3 with fail
 go_loopw [6,5] (fun v6 v5 wr=>∃(i:Nat) (A5:Option Addr) (c5:Nat) (hs:List Hin),v6=.int .i64 i/\v5=.slice A5 hs.length c5/\i<=m/\Hid (CdP C fm (i*sa) hs)/\Ext wa wr/\Hid (CdI w0 wa wr 128 A5 c5 hs)) (fun v _ _=>m-(intOf v).toNat)
 case atStart=>exact⟨0,none,0,[],rfl,rfl,om,lh ⟨by simp,by simp⟩,Ext.rfl' _,lh (CdI.nil (Ext.rfl' wa))⟩
 case round=>
  obtain⟨i,A5,c5,hs,rfl,rfl,hi,HLEN,x1,HI⟩:=hrel;have hlb:hs.length<=2912:=by
   have h1:=HLEN.out.1;have h2:i*sa<=2*1456:=Nat.mul_le_mul om hsn;omega
  have hcaps:=HI.out.len;have z2r:=x1.cell z2;have z3r:=x1.cell z3;have z4r:=x1.cell z4;have z5r:=x1.cell z5;obtain⟨b',o',hK',n,ht,k0,k1,k2,k3,k4,k5,k6,k7⟩:=kid8xg (HX0.out.trans x1) HC.out HTS.out HK.out hlt0n;injection hK' with hK';injection hK' with e1 e2 _
  subst e1;subst e2;simp only[Nat.zero_mul,Nat.add_zero] at k0 k1 k2 k3 k4 k5 k6 k7;have HT:=lh ht;have HXR:=lh (HX0.out.trans x1);have ewp:IntKind.i64.wrap (fm+(hs.length:Int))=fm+(hs.length:Int):=wj;clear ht;by_cases hlt:i<m
  ·have hiI:(i:Int)<(m:Int):=om;have hq1:fm+(hs.length:Int)+(sa:Nat)<=100000:=by
    have h1:=HLEN.out.1;have h2:=Nat.add_one_mul i sa;have h3:(i+1)*sa<=m*sa:=Nat.mul_le_mul_right _ hlt;have h4:m*sa<=N:=by
     by_cases e:mx = -1
     ·have:=HN1.out e;omega
     ·obtain⟨q,hq⟩:∃q:Nat,mx=q:=⟨mx.toNat,om⟩;obtain⟨h5,h6⟩:=HN2.out q hq;have h7:m*sa<=q*sa:=Nat.mul_le_mul_right _ h5;omega
    omega
   go_wp2_with (first|(go_at_call 101;refine(HIH.out wr _ _ HXR.out HT.out HG0.out (fm+(hs.length:Int)) om (by rw[<-HSA.out];exact hq1)).mono ?_;rintro e w3 ⟨A3,c3,hs3,rfl,hp3,h3⟩;have HP3:=lh hp3;have hl3:hs3.length<=1456:=(by have:=hp3.1;rw[<-HSA.out] at this;omega);clear hp3;have H3:=lh h3;have hc3:=h3.len;have x3:=h3.ext;clear h3)|(at_builtin;obtain⟨ys,HY⟩:∃ys,Hid (ys=hs++hs3):=⟨_,lh rfl⟩;refine wpList_appN rfl _ _ _ rfl iI Tryz.underlying23 jI0 jI1 jI2 jI3 A5 c5 hs rfl (HI.out.up x3) A3 c3 hs3 rfl (OwnS.cells H3.out.own) H3.out.ok om ys HY.out ?_;intro A8 c8 w8 h8 x8 hr8 hg8;have H8:=lh h8;have HG8:=lh hg8;have HR8:=lh hr8;clear h8 hg8 hr8))
   go_roundw
   case rel=>exact⟨i+1,A8,c8,ys,by go_num,rfl,om,lh (by
    rw[HY.out,Nat.add_one_mul];have h:=HP3.out
    rw[<-HSA.out,HLEN.out.1] at h;exact HLEN.out.app h),(x1.trans x3).grown HG8.out (fun k hk=>HR8.out k hk),H8⟩
   case measure=>simp[intOf];omega
  ·have hiI:¬(i:Int)<(m:Int):=om;have HLM:Hid (CdP C fm (m*sa) hs):=lh (by
    have e:i=m:=om;have h:=HLEN.out;rw[e] at h;exact h)
   clear HLEN;by_cases hm1:mx = -1
   ·subst hm1;have HNE:=lh (HN1.out rfl);have hq:hs.length+sa+2<=N:=by have h1:=HLM.out.1;have h2:=HNE.out;omega
    have ewq:IntKind.i64.wrap (fm+(hs.length:Int)+1)=fm+(hs.length:Int)+1:=wj
    go_upto_region 9 with(go_at_call 101;refine(HIH.out wr _ _ HXR.out HT.out HG0.out (fm+(hs.length:Int)+1) om (by rw[<-HSA.out];omega)).mono ?_;rintro e w8 ⟨A8,c8,hs8,rfl,hp8,h8⟩)
    have HP8:Hid (CdP C (fm+(hs.length:Int)+1) sa hs8):=lh (by rw[<-HSA.out] at hp8;exact hp8);have hl8:hs8.length<=sa:=Nat.le_of_eq HP8.out.1;clear hp8;have x8:=h8.ext;have H8:=lh h8;have hc8:=h8.len;have z58:=x8.cell z5r;have ewe:IntKind.i64.wrap (fm+(hs.length:Int)+(hs8.length:Int))=fm+(hs.length:Int)+(hs8.length:Int):=wj;have ewf:IntKind.i64.wrap (fm+(hs.length:Int)+(hs8.length:Int)+2)=fm+(hs.length:Int)+(hs8.length:Int)+2:=wj;clear h8 k0 k1 k2 k3 k4 k5 k6 k7 z2r z3r z4r z5r;have XI:=Ext.alloc w8 (.cells #[.int .i64 2,.int .i64 (fm+(hs.length:Int)+1),.int .i64 (fm+(hs.length:Int)+(hs8.length:Int)+2),.int .i64 0,.slice none 0 0] 128);have BI:=Blk.new w8 128 #[.int .i64 2,.int .i64 (fm+(hs.length:Int)+1),.int .i64 (fm+(hs.length:Int)+(hs8.length:Int)+2),.int .i64 0,.slice none 0 0];have z5b:=XI.cell z58
    go_upto_region 11 with fail
    obtain⟨gI,hgI0⟩:∃g,g=w8.heap.size:=⟨_,rfl⟩
    rw[<-hgI0] at BI ⊢;have hgI:w8.heap.size<=gI:=om;clear hgI0;generalize w8.alloc (.cells #[.int .i64 2,.int .i64 (fm+(hs.length:Int)+1),.int .i64 (fm+(hs.length:Int)+(hs8.length:Int)+2),.int .i64 0,.slice none 0 0] 128)=wb at *;obtain⟨y0,y1,y2,y3,y4⟩:wb.cell? ⟨gI,0,none⟩=some (.int .i64 2)/\wb.cell? ⟨gI,1,none⟩=some (.int .i64 (fm+(hs.length:Int)+1))/\wb.cell? ⟨gI,2,none⟩=some (.int .i64 (fm+(hs.length:Int)+(hs8.length:Int)+2))/\wb.cell? ⟨gI,3,none⟩=some (.int .i64 0)/\wb.cell? ⟨gI,4,none⟩=some (.slice none 0 0):=⟨BI.cell 0,BI.cell 1,BI.cell 2,BI.cell 3,BI.cell 4⟩;by_cases hmd1:md=1
    ·subst hmd1;obtain⟨f0,f1,f2,f3,f4⟩:=in_frz BI
     go_upto_region 13 with fail
     have bn:=setIn_blk BI ⟨2,(fm+(hs.length:Int)+(hs8.length:Int)+2),(fm+(hs.length:Int)+1),0,none,0,[]⟩;have xn:=setIn_ext XI hgI ⟨2,(fm+(hs.length:Int)+(hs8.length:Int)+2),(fm+(hs.length:Int)+1),0,none,0,[]⟩;change Code.wp _ _ _ _ (setIn wb gI ⟨2,(fm+(hs.length:Int)+(hs8.length:Int)+2),(fm+(hs.length:Int)+1),0,none,0,[]⟩);clear y0 y1 y2 y3 y4 f0 f1 f2 f3 f4 BI XI;generalize setIn wb gI ⟨2,(fm+(hs.length:Int)+(hs8.length:Int)+2),(fm+(hs.length:Int)+1),0,none,0,[]⟩=wn at *;obtain⟨y0,y1,y2,y3,y4⟩:=in_cells bn;simp only[List.length_nil] at y4;have HIn:=lh (HI.out.up (x8.trans xn));have H8n:=lh (H8.out.up xn);have HAP:Hid (∀b,A5.map (·.block)=some b->A8.map (·.block)=some b->False):=lh (fun b h1 h2=>by have h3:=(OwnS.blt HI.out.own h1).1;have h4:=OwnS.row H8.out.own b h2;omega);obtain⟨ys1,HY1⟩:∃ys,Hid (ys=hs++[(⟨2,(fm+(hs.length:Int)+(hs8.length:Int)+2),(fm+(hs.length:Int)+1),0,none,0,[]⟩:Hin)]):=⟨_,lh rfl⟩;obtain⟨ys2,HY2⟩:∃ys,Hid (ys=ys1++hs8):=⟨_,lh rfl⟩;obtain⟨ys3,HY3⟩:∃ys,Hid (ys=ys2++[(⟨3,fm+(hs.length:Int),0,0,none,0,[]⟩:Hin)]):=⟨_,lh rfl⟩;have hl1:Hid (ys1.length=hs.length+1):=lh (by rw[HY1.out,List.length_append];simp);have hl2:Hid (ys2.length=hs.length+1+hs8.length):=lh (by rw[HY2.out,List.length_append,hl1.out]);have hl3:Hid (ys3.length=hs.length+hs8.length+2):=lh (by rw[HY3.out,List.length_append,hl2.out];simp;omega)
     go_upto_region 14 with(first|(at_builtin;refine wpList_appN (w0:=w0) rfl _ _ _ rfl iI Tryz.underlying23 jI0 jI1 jI2 jI3 A5 c5 hs rfl (HIn.out.up (Ext.alloc wn _)) _ 1 [⟨2,(fm+(hs.length:Int)+(hs8.length:Int)+2),(fm+(hs.length:Int)+1),0,none,0,[]⟩] rfl (hin_blk (Blk.new _ _ _)) (fun h hh=>by rw[List.mem_singleton.1 hh];exact HinOk.plain w0 (by simp only[I64];omega)) (by simp only[List.length_singleton];omega) ys1 HY1.out ?_;intro A6 c6 w6 h6 x6 hr6 hg6;have H6:=lh h6;have HG6:=lh hg6;clear h6 x6 hr6 hg6)|(at_builtin;refine wpList_appN (w0:=w0) rfl _ _ _ rfl iI Tryz.underlying23 jI0 jI1 jI2 jI3 A6 c6 ys1 rfl H6.out A8 c8 hs8 rfl (OwnS.cells (OwnS.kp (OwnS.ext H8n.out.own (Ext.alloc wn _)) (KpP.of_grown HG6.out) (fun b h1 h2=>HAP.out b h2 h1))) H8n.out.ok (by have:=hl1.out;omega) ys2 HY2.out ?_;intro A7 c7 w7 h7 x7 hr7 hg7))
     exact C6gz2
    ·have hmd0:(md == 1)=false:=by simp[hmd1]
     go_upto_region 13 with fail
     have bn:=BI;have xn:=XI;clear BI XI;generalize wb=wn at *;have HIn:=lh (HI.out.up (x8.trans xn));have H8n:=lh (H8.out.up xn);have HAP:Hid (∀b,A5.map (·.block)=some b->A8.map (·.block)=some b->False):=lh (fun b h1 h2=>by have h3:=(OwnS.blt HI.out.own h1).1;have h4:=OwnS.row H8.out.own b h2;omega);obtain⟨ys1,HY1⟩:∃ys,Hid (ys=hs++[(⟨2,(fm+(hs.length:Int)+1),(fm+(hs.length:Int)+(hs8.length:Int)+2),0,none,0,[]⟩:Hin)]):=⟨_,lh rfl⟩;obtain⟨ys2,HY2⟩:∃ys,Hid (ys=ys1++hs8):=⟨_,lh rfl⟩;obtain⟨ys3,HY3⟩:∃ys,Hid (ys=ys2++[(⟨3,fm+(hs.length:Int),0,0,none,0,[]⟩:Hin)]):=⟨_,lh rfl⟩;have hl1:Hid (ys1.length=hs.length+1):=lh (by rw[HY1.out,List.length_append];simp);have hl2:Hid (ys2.length=hs.length+1+hs8.length):=lh (by rw[HY2.out,List.length_append,hl1.out]);have hl3:Hid (ys3.length=hs.length+hs8.length+2):=lh (by rw[HY3.out,List.length_append,hl2.out];simp;omega)
     go_upto_region 14 with(first|(at_builtin;refine wpList_appN (w0:=w0) rfl _ _ _ rfl iI Tryz.underlying23 jI0 jI1 jI2 jI3 A5 c5 hs rfl (HIn.out.up (Ext.alloc wn _)) _ 1 [⟨2,(fm+(hs.length:Int)+1),(fm+(hs.length:Int)+(hs8.length:Int)+2),0,none,0,[]⟩] rfl (hin_blk (Blk.new _ _ _)) (fun h hh=>by rw[List.mem_singleton.1 hh];exact HinOk.plain w0 (by simp only[I64];omega)) (by simp only[List.length_singleton];omega) ys1 HY1.out ?_;intro A6 c6 w6 h6 x6 hr6 hg6;have H6:=lh h6;have HG6:=lh hg6;clear h6 x6 hr6 hg6)|(at_builtin;refine wpList_appN (w0:=w0) rfl _ _ _ rfl iI Tryz.underlying23 jI0 jI1 jI2 jI3 A6 c6 ys1 rfl H6.out A8 c8 hs8 rfl (OwnS.cells (OwnS.kp (OwnS.ext H8n.out.own (Ext.alloc wn _)) (KpP.of_grown HG6.out) (fun b h1 h2=>HAP.out b h2 h1))) H8n.out.ok (by have:=hl1.out;omega) ys2 HY2.out ?_;intro A7 c7 w7 h7 x7 hr7 hg7))
     exact C6gz2
   ·have hm1f:(mx == -1)=false:=by simp[hm1]
    obtain⟨q,rfl⟩:∃q:Nat,mx=q:=⟨mx.toNat,om⟩;clear k0 k1 k2 k3 k4 k5 k6 k7;have BR:=HB0.out.ext x1;have r0:=BR.cell 0;have r1:=BR.cell 1;have r6:=BR.cell 6;have r7:=BR.cell 7;clear BR;have HT4r:=lh (HT4.out.ext HXR.out);have HSZ:=lh (xsize_G 64 C S (d+1) wr _ _ hd HT4r.out HG4.out);rw[HN4.out] at HSZ
    go_upto_region 17 with(go_at_call 100;refine HSZ.out.mono ?_;rintro e w8 ⟨rfl,x8⟩;have z38:=x8.cell z3r;have z48:=x8.cell z4r)
    obtain⟨hmq,hNq⟩:=HN2.out q rfl;have HNE:=lh hNq;clear hNq;obtain⟨en,hE⟩:∃en:Int,en=fm+(N:Int):=⟨_,rfl⟩
    rw[<-hE];have hen:I64 en:=by unfold I64;omega
    have HEN:=lh hE;clear hE;have x18:=x1.trans x8;have HI8:=lh (HI.out.up x8);have him:i=m:=om;clear hlt hiI;subst him;clear z38 z48 r0 r1 r6 r7 z2r z3r z4r z5r HT4r HSZ HI x1 HXR
    go_loopw [12,5] (fun v12 v5 wq=>∃(k:Nat) (A5:Option Addr) (c5:Nat) (hs:List Hin),v12=.int .i64 k/\v5=.slice A5 hs.length c5/\i<=k/\k<=q/\Hid (hs.length=k*sa+(k-i)/\∀h∈hs,VI C (fm+(N:Int)) h)/\Ext wa wq/\Hid (CdI w0 wa wq 128 A5 c5 hs)) (fun v _ _=>q-(intOf v).toNat)
    case atStart=>exact⟨i,A5,c5,hs,rfl,rfl,Nat.le_refl _,hmq,lh ⟨by have:=HLM.out.1;omega,fun h hh=>(HLM.out.2 h hh).mono (by
     have h2:i*sa<=q*sa:=Nat.mul_le_mul_right _ hmq;have h3:=HNE.out
     push_cast
     have h4:((i*sa:Nat):Int)<=(N:Int):=om
     push_cast at h4;omega)⟩,x18,HI8⟩
    case round=>
     clear HI8 x18 HLM hcaps hlb;obtain⟨k,A5,c5,hs,rfl,rfl,hik,hkq,HLEN,x1,HI⟩:=hrel;have hlb:hs.length<=5000:=by
      have h1:=HLEN.out.1;have h2:k*sa<=3*1456:=Nat.mul_le_mul om hsn;omega
     have hcaps:=HI.out.len;have z2r:=x1.cell z2;have z4r:=x1.cell z4;have z5r:=x1.cell z5;by_cases hlt:k<q
     ·have hiI:(k:Int)<(q:Int):=om;have hq:hs.length+1+sa<=N:=by
       have h1:=HLEN.out.1;have h2:=Nat.add_one_mul k sa;have h3:(k+1)*sa<=q*sa:=Nat.mul_le_mul_right _ hlt;have h4:=HNE.out;omega
      have HXR:=lh (HX0.out.trans x1);have ewp:IntKind.i64.wrap (fm+(hs.length:Int))=fm+(hs.length:Int):=wj;have ewq:IntKind.i64.wrap (fm+(hs.length:Int)+1)=fm+(hs.length:Int)+1:=wj;have XI:=Ext.alloc wr (.cells #[.int .i64 2,.int .i64 (fm+(hs.length:Int)+1),.int .i64 en,.int .i64 0,.slice none 0 0] 128);have BI:=Blk.new wr 128 #[.int .i64 2,.int .i64 (fm+(hs.length:Int)+1),.int .i64 en,.int .i64 0,.slice none 0 0];have z5b:=XI.cell z5r
      go_upto_region 21 with fail
      obtain⟨gI,hgI0⟩:∃g,g=wr.heap.size:=⟨_,rfl⟩
      rw[<-hgI0] at BI ⊢;have hgI:wr.heap.size<=gI:=om;clear hgI0;generalize wr.alloc (.cells #[.int .i64 2,.int .i64 (fm+(hs.length:Int)+1),.int .i64 en,.int .i64 0,.slice none 0 0] 128)=wb at *;obtain⟨y0,y1,y2,y3,y4⟩:wb.cell? ⟨gI,0,none⟩=some (.int .i64 2)/\wb.cell? ⟨gI,1,none⟩=some (.int .i64 (fm+(hs.length:Int)+1))/\wb.cell? ⟨gI,2,none⟩=some (.int .i64 en)/\wb.cell? ⟨gI,3,none⟩=some (.int .i64 0)/\wb.cell? ⟨gI,4,none⟩=some (.slice none 0 0):=⟨BI.cell 0,BI.cell 1,BI.cell 2,BI.cell 3,BI.cell 4⟩;by_cases hmd1:md=1
      ·subst hmd1;obtain⟨f0,f1,f2,f3,f4⟩:=in_frz BI
       go_upto_region 23 with fail
       have bn:=setIn_blk BI ⟨2,en,(fm+(hs.length:Int)+1),0,none,0,[]⟩;have xn:=setIn_ext XI hgI ⟨2,en,(fm+(hs.length:Int)+1),0,none,0,[]⟩;change Code.wp _ _ _ _ (setIn wb gI ⟨2,en,(fm+(hs.length:Int)+1),0,none,0,[]⟩);clear y0 y1 y2 y3 y4 f0 f1 f2 f3 f4 BI XI;generalize setIn wb gI ⟨2,en,(fm+(hs.length:Int)+1),0,none,0,[]⟩=wn at *;obtain⟨y0,y1,y2,y3,y4⟩:=in_cells bn;simp only[List.length_nil] at y4;have HIn:=lh (HI.out.up xn);obtain⟨ys1,HY1⟩:∃ys,Hid (ys=hs++[(⟨2,en,(fm+(hs.length:Int)+1),0,none,0,[]⟩:Hin)]):=⟨_,lh rfl⟩;have hl1:Hid (ys1.length=hs.length+1):=lh (by rw[HY1.out,List.length_append];simp)
       go_upto_region 24 with(at_builtin;refine wpList_appN (w0:=w0) rfl _ _ _ rfl iI Tryz.underlying23 jI0 jI1 jI2 jI3 A5 c5 hs rfl (HIn.out.up (Ext.alloc wn _)) _ 1 [⟨2,en,(fm+(hs.length:Int)+1),0,none,0,[]⟩] rfl (hin_blk (Blk.new _ _ _)) (fun h hh=>by rw[List.mem_singleton.1 hh];exact HinOk.plain w0 (by have hen':=hen;simp only[I64] at hen' ⊢;omega)) (by simp only[List.length_singleton];omega) ys1 HY1.out ?_;intro A6 c6 w6 h6 x6 hr6 hg6)
       exact C6gz1
      ·have hmd0:(md == 1)=false:=by simp[hmd1]
       go_upto_region 23 with fail
       have bn:=BI;have xn:=XI;clear BI XI;generalize wb=wn at *;have HIn:=lh (HI.out.up xn);obtain⟨ys1,HY1⟩:∃ys,Hid (ys=hs++[(⟨2,(fm+(hs.length:Int)+1),en,0,none,0,[]⟩:Hin)]):=⟨_,lh rfl⟩;have hl1:Hid (ys1.length=hs.length+1):=lh (by rw[HY1.out,List.length_append];simp)
       go_upto_region 24 with(at_builtin;refine wpList_appN (w0:=w0) rfl _ _ _ rfl iI Tryz.underlying23 jI0 jI1 jI2 jI3 A5 c5 hs rfl (HIn.out.up (Ext.alloc wn _)) _ 1 [⟨2,(fm+(hs.length:Int)+1),en,0,none,0,[]⟩] rfl (hin_blk (Blk.new _ _ _)) (fun h hh=>by rw[List.mem_singleton.1 hh];exact HinOk.plain w0 (by have hen':=hen;simp only[I64] at hen' ⊢;omega)) (by simp only[List.length_singleton];omega) ys1 HY1.out ?_;intro A6 c6 w6 h6 x6 hr6 hg6)
       exact C6gz1
     ·have hiI:¬(k:Int)<(q:Int):=om
      go_wp2_with fail
      go_ret
      exact⟨A5,c5,hs,rfl,by
       have e:k=q:=om;subst e;exact⟨by rw[HNE.out];exact HLEN.out.1,HLEN.out.2⟩,HI.out.low HE0.out⟩
theorem xcode_4g (C:Int)(w0:World)(S:Nat->Prop)(d:Nat)(IH:CodeG C S w0 d)(w:World)(x0:Ext w0 w)(A:Option Addr)(c:Nat)(l:List Sp)(K:Option Addr)(kc:Nat)(ks:List Value)(ts:List Tm)(T4:Tm)(m:Nat)(mx md nn:Int)(neg:Bool)(fm:Int)(sa N:Nat)(hd:d+1<=6)
 (ht4:TreeG 3 S w0 (d+1) (.agg #[.int .i64 4,.slice A l.length c,.slice K ks.length kc,.int .i64 (m:Int),.int .i64 mx,.int .i64 md,.int .i64 nn,.bool neg]) T4) (hg4:GdT 64 C T4) (hN4:szF T4=N) (h1k:1<=ks.length) (hm:m<=2) (hmx : -1<=mx/\mx<=3) (hmd:0<=md/\md<=1) (hkl:ks.length<=kc/\kc<=maxLen) (hcl:CellsAt w0 K (ks.flatMap cellsOf))
 (hts:ks.length=ts.length) (hks:∀i (hi:i<ks.length) (hj:i<ts.length),TreeG 3 S w0 d ks[i] ts[i]) (hgd:∀t∈ts,GdT 64 C t) (hsa:∀(h:0<ts.length),sa=szF ts[0]) (hN1:mx = -1->N=m*sa+sa+2) (hN2:∀q:Nat,mx=q->m<=q/\N=q*sa+(q-m)) (hf:0<=fm) (hfB:fm+(N:Nat)<=100000) :
 Calls Tryz.prog 101 #[.agg #[.int .i64 4,.slice A l.length c,.slice K ks.length kc,.int .i64 (m:Int),.int .i64 mx,.int .i64 md,.int .i64 nn,.bool neg],.int .i64 fm] w (RetCg 128 w0 (CdP C fm N) w):=by
 have B0:=Blk.new w 61 #[.int .i64 4,.slice A l.length c,.slice K ks.length kc,.int .i64 (m:Int),.int .i64 mx,.int .i64 md,.int .i64 nn,.bool neg];have E0:=Ext.alloc w (.cells #[.int .i64 4,.slice A l.length c,.slice K ks.length kc,.int .i64 (m:Int),.int .i64 mx,.int .i64 md,.int .i64 nn,.bool neg] 61);have HR:=lh (xrep_g C w0 S d IH (w.alloc (.cells #[.int .i64 4,.slice A l.length c,.slice K ks.length kc,.int .i64 (m:Int),.int .i64 mx,.int .i64 md,.int .i64 nn,.bool neg] 61)) (x0.trans E0) A c l K kc ks ts T4 m mx md nn neg fm sa N hd ht4 hg4 hN4 h1k hm hmx hmd hkl hcl hts hks hgd hsa hN1 hN2 hf hfB);clear IH ht4 hg4 hN4 hcl hts hks hgd hsa hN1 hN2 hfB hf h1k hm hmx hmd;go_enter Tryz.func101,Tryz.ntmps101
 go_upto_region 1 with fail
 obtain⟨gx,hgx⟩:∃gx,gx=w.heap.size:=⟨_,rfl⟩
 rw[<-hgx] at B0 ⊢;clear hgx;generalize w.alloc (.cells #[.int .i64 4,.slice A l.length c,.slice K ks.length kc,.int .i64 (m:Int),.int .i64 mx,.int .i64 md,.int .i64 nn,.bool neg] 61)=wa at *;have z0:=B0.cell 0;have z1:=B0.cell 1;have z2:=B0.cell 2;have z3:=B0.cell 3;have z4:=B0.cell 4;have z5:=B0.cell 5;have z6:=B0.cell 6;have z7:=B0.cell 7;clear B0
 go_wp2_with (go_at_call 184;refine HR.out.mono ?_;rintro e w3 ⟨A3,c3,hs3,rfl,h1,h2⟩)
 go_ret
 exact⟨A3,c3,hs3,rfl,h1,h2.low E0⟩
theorem xcode_G (C:Int)(hC:0<=C/\C<=9)(S:Nat->Prop)(w0:World):∀d,d<=6->CodeG C S w0 d
 | 0,_=>fun w v T x0 ht=>by obtain⟨e,he⟩:=ht.pos;omega
 | d+1,hd=>by
  have IH:=xcode_G C hC S w0 d om;intro w v T x0 ht hg fm hf hfB;obtain⟨n,rfl,hok,hsl,hkl,hkc,hcl,hhd,htl,hks⟩:=ht.node;obtain⟨hh,hgk⟩:HdOk 64 C T.hd T.kids/\∀t∈T.kids,GdT 64 C t:=by cases hg with|mk _ h1 h2=>exact⟨h1,h2⟩
  have hse:=szF_eq T;have hmx0:=hok.mx;have hset:=hok.set;rw[hhd] at hh hse;obtain⟨op,A,c,l,K,kc,ks,mn,mx,md,nn,neg⟩:=n;obtain⟨g0,g⟩:=hh;simp only[Nd.hd] at g0 g hse
  simp only at hsl hkl hkc hcl htl hset hmx0
  unfold Nd.val at ht ⊢
  simp only at ht ⊢
  have hlm:(T.kids.map szF).length=T.kids.length:=List.length_map ..;rcases g with⟨rfl,rfl,rfl,rfl,rfl,rfl,hk⟩|⟨rfl,hl,rfl,rfl,rfl,rfl,hk⟩|⟨ho,rfl,rfl,rfl,rfl,rfl,hk2,hk3⟩|⟨rfl,rfl,hm4,hmd,rfl,t,hk,_⟩|⟨rfl,_,rfl,rfl,rfl,rfl,hn1,hn2,hk⟩|⟨_,hb,_⟩
  ·have e:szF T=0:=by rw[hse,hk];simp[szH]
   rw[e];exact xcode_0g C w0 w x0 A c [] K kc ks 0 0 0 0 neg fm
  ·have e:szF T=1:=by rw[hse];simp[szH]
   rw[e];exact xcode_1g C w0 w x0 A c l K kc ks 0 0 0 0 neg fm hsl hset hl
  ·rcases ho with rfl|rfl
   ·have e:szF T=(T.kids.map szF).sum:=by rw[hse];simp[szH]
    rw[e] at hfB ⊢;exact xcode_2g C w0 w x0 A c [] K kc ks 0 0 0 0 neg fm S d T.kids IH ⟨hkl,hkc⟩ hcl htl hks hgk hf hfB
   ·have e:szF T=(T.kids.map szF).sum+2*T.kids.length-2:=by rw[hse];simp[szH]
    rw[e] at hfB ⊢;obtain⟨m,hm⟩:∃m,ks.length=m+2:=⟨ks.length-2,om⟩;exact xcode_3g C w0 S d IH m w x0 A c [] K kc ks T.kids 0 0 0 0 neg fm hm ⟨hkl,hkc⟩ hcl htl hks hgk hf hfB
  ·obtain⟨m,rfl⟩:∃m:Nat,mn=m:=⟨mn.toNat,om⟩;have hz:ks.length=1:=by rw[htl,hk];rfl
   have hs1:(T.kids.map szF).sum=szF t:=by rw[hk];simp
   refine xcode_4g C w0 S d IH w x0 A c [] K kc ks T.kids T m mx md 0 neg fm (szF t) (szF T) hd ht hg rfl om om om om ⟨hkl,hkc⟩ hcl htl hks hgk (fun h=>by simp only[hk,List.getElem_cons_zero]) (fun h=>?_) (fun q hq=>⟨?_,?_⟩) hf hfB
   ·rw[hse];subst h;simp[szH,hs1,Nat.add_one_mul]
   ·omega
   ·rw[hse];subst hq;have hq0:¬((q:Int) = -1):=om;simp[szH,hs1,hq0]
  ·have hz:T.kids.length=1:=hk;have h0:0<T.kids.length:=om;have e:szF T=szF T.kids[0]+2:=by
    rw[hse];obtain⟨t,ht2⟩:∃t,T.kids=[t]:=List.length_eq_one_iff.1 hz;simp[szH,ht2]
   rw[e] at hfB ⊢;exact xcode_5g C w0 S d IH w x0 A c [] K kc ks T.kids 0 0 0 nn neg fm (szF T.kids[0]) ⟨hn1,hn2⟩ hC.2 om ⟨hkl,hkc⟩ hcl htl hks hgk (fun _=>rfl) hf hfB
  ·exact absurd dK hb
end
end Go.Proofs.YtmgpefenkilffaaGreat
