/- Texts of this proof: Y27 V1 V2 VF SW2 VG PK9 SW1 SW3 SW5 SW4 VH VL. -/
import Derived.Test.YtmgpefenkilffaaGreatSW21
import Derived.Test.YtmgpefenkilffaaGreatSW40
import Derived.Test.YtmgpefenkilffaaGreatSW46
import Derived.Test.YtmgpefenkilffaaGreatSW48
set_option linter.all false
set_option maxRecDepth 100000
set_option maxHeartbeats 16000000
namespace Go.Proofs.YtmgpefenkilffaaGreat
section
open Go.RowKit
attribute [local go_sem ↓] Go.wp_at_zero Go.wp_at_succ
theorem Y27z1 {P:Prop} (h:P:=by
 clear hil;go_enter Tryz.func82,Tryz.ntmps82
 go_wp2_with fail
 go_ret
 exact⟨rfl,eG⟩):P:=h
theorem progValid_any (gA:Option Addr)(gc:Nat)(hs:List Hin)(runes:Bool)(caps:Int)(w:World)(hP:PL w gA gc hs) :
 Calls Tryz.prog 82 #[progV gA hs.length gc caps runes] w (RetV (.int .i64 (progE runes caps (insL hs))) w):=by
 have hcap:=hP.len;have bG:=Blk.new w 35 #[.slice gA hs.length gc,.int .i64 caps,.bool runes];have eG:=Ext.alloc w (.cells #[.slice gA hs.length gc,.int .i64 caps,.bool runes] 35);have hil:=insL_len hs;unfold progV;by_cases hbig:8192<hs.length
 ·rw[progE_big (by rw[hil];exact hbig)];have hbI:(8192:Int)<hs.length:=om;exact Y27z1
 ·have hbI:¬(8192:Int)<hs.length:=om;by_cases hn0:hs.length=0
  ·rw[progE_arg (by rw[hil];omega) (.inl (by rw[hil];exact hn0))];rw[hn0];clear hil hbig hbI hP hcap bG eG hn0;go_enter Tryz.func82,Tryz.ntmps82
   go_wp2_with fail
   all_goals
    go_ret
    exact⟨rfl,Ext.alloc _ _⟩
  ·have hnb:((hs.length:Int) == 0)=false:=by rw[beq_eq_false_iff_ne];omega
   by_cases hc0:caps<0
   ·rw[progE_arg (by rw[hil];omega) (.inr (.inl hc0))];exact Y27z1
   ·by_cases hc9:9<caps
    ·rw[progE_arg (by rw[hil];omega) (.inr (.inr hc9))];exact Y27z1
    ·clear hil;have hpos:0<hs.length:=om;have HBAD:=fun(k:Nat) (hk:k<hs.length) (h:¬InsOk runes caps hs.length hs[k].ins)=>lh (progE_badH (runes:=runes) (caps:=caps) (hs:=hs) hbig om hk h);have HEND:=fun(h:∀k (hk:k<hs.length),InsOk runes caps hs.length hs[k].ins)=>lh (progE_endH (runes:=runes) (caps:=caps) (hs:=hs) hbig om h om);obtain⟨E,hE⟩:∃E,E=progE runes caps (insL hs):=⟨_,rfl⟩
     rw[<-hE] at HBAD HEND ⊢;clear hE;have hnb2:=lh hnb;go_enter Tryz.func82,Tryz.ntmps82
     go_upto_region 6 with fail
     clear hnb;have hP0:=hP.ext eG;generalize w.alloc (.cells #[.slice gA hs.length gc,.int .i64 caps,.bool runes] 35)=w0 at *
     go_loopw [25] (fun v wr=>∃k:Nat,v=.int .i64 k/\k<=hs.length/\Hid (∀j (hj:j<hs.length),j<k->InsOk runes caps hs.length hs[j].ins)/\Ext w0 wr) (fun v _=>hs.length-(intOf v).toNat)
     case atStart=>exact⟨0,rfl,om,lh (fun j _ h=>om),Ext.rfl' _⟩
     case round=>
      obtain⟨k,rfl,hk,hok,x1⟩:=hrel;have bG1:=bG.ext x1;obtain⟨r0,r1,r2,r0f,r1f,r2f,rz⟩:=bG1.c3;by_cases hlt:k<hs.length
      ·have hkI:(k:Int)<hs.length:=om;obtain⟨pb,po,rfl,c0,c1,c2,c3,c4⟩:=(hP0.ext x1).get hlt;have hsl:=(hP0.ext x1).sl _ (List.getElem_mem hlt);have hwf:=(hP0.ext x1).rng _ (List.getElem_mem hlt);have HB:=fun h=>(HBAD k hlt h);have HOK:=fun(h:InsOk runes caps hs.length hs[k].ins)=>lh (show ∀j (hj:j<hs.length),j<k+1->InsOk runes caps hs.length hs[j].ins from fun j hj hjk=>by
        rcases Nat.lt_or_ge j k with h1|h1
        ·exact hok.out j hj h1
        ·have:j=k:=om;subst this;exact h)
       generalize hs[k]=hh at *;obtain⟨zop,zx,zy,zn,zA,zc,zl⟩:=hh;obtain⟨_,hw2,hw3,hw4⟩:=hwf
       simp only at c0 c1 c2 c3 c4 hsl hw2 hw3 hw4
       simp only[Hin.ins] at HB HOK;have HF:=fun(w':World) (h:Ext wr w')=>lh (pvalid_any (some ⟨pb,po,none⟩) hs.length gc hcap runes caps ⟨om,om⟩ zop zx zy zn zA zc zl w' (hsl.ext h) pb (po+k*5) (h.cell c0) (h.cell c1) (h.cell c2) (h.cell c3) (h.cell c4));have k0:=kc0 r0;have k1:=kc0 r1;have k2:=kc0 r2;have k3:=kc0 c0;have k4:=kc0 c1;have k5:=kc0 c2;have k6:=kc0 c3;have k7:=kc0 c4;by_cases hins:InsOk runes caps hs.length ⟨zop,zx,zy,zn,zl⟩
       ·have HK:=HOK hins;rw[okB_t hins] at HF;clear HB HOK hins hw2 hw3 hw4 HBAD HEND
        go_wp2_with fail
        refine Xr.start [] kr ?_;refine Xtk 0 ?_
        iterate 4(refine Xtn ?_)
        refine Xcl 5 fun w3 hE3 hK3 K hKK=>?_;go_simp;refine(HF w3 hE3).out.mono ?_;rintro e w4 ⟨rfl,x4⟩;refine hKK _ _ x4 ?_;clear hKK;refine ptm ?_;refine Xtk 6 ?_;refine Xdn fun w5 hE5 hK5=>?_;have xf:=x1.trans hK5.nil;clear k0 k1 k2 k3 k4 k5 k6 k7
        go_wp2_with fail
        go_roundw
        case rel=>exact⟨k+1,by go_num,om,HK,xf⟩
        case measure=>simp[intOf];omega
       ·have HK:=HB hins;rw[okB_f hins] at HF;clear HB HOK hins hw2 hw3 hw4 HBAD HEND
        go_wp2_with fail
        refine Xr.start [] kr ?_;refine Xtk 0 ?_
        iterate 4(refine Xtn ?_)
        refine Xcl 5 fun w3 hE3 hK3 K hKK=>?_;go_simp;refine(HF w3 hE3).out.mono ?_;rintro e w4 ⟨rfl,x4⟩;refine hKK _ _ x4 ?_;clear hKK;refine ptm ?_;refine Xtk 6 ?_;refine Xdn fun w5 hE5 hK5=>?_;have xf:=x1.trans hK5.nil;clear k0 k1 k2 k3 k4 k5 k6 k7
        go_wp2_with fail
        go_ret
        exact⟨by rw[HK.out];rfl,eG.trans xf⟩
      ·have hkI:¬(k:Int)<hs.length:=om;have hall:∀j (hj:j<hs.length),InsOk runes caps hs.length hs[j].ins:=fun j hj=>hok.out j hj om;have HE:=HEND hall;have hlast:=(hall (hs.length-1) om).2.2.2.2;obtain⟨pb,po,rfl,c0,c1,c2,c3,c4⟩:=(hP0.ext x1).get (k:=hs.length-1) om;generalize hs[hs.length-1]=hh at *;obtain⟨zop,zx,zy,zn,zA,zc,zl⟩:=hh;simp only[Hin.ins] at HE hlast c0;clear HBAD HEND hall hok c1 c2 c3 c4;have hwm:IntKind.i64.wrap ((hs.length:Int)-1)=(hs.length:Int)-1:=wj;have hl1:(hs.length:Int)-1<hs.length:=om;have hl2:(0:Int)<=(hs.length:Int)-1:=om;have hl3:((hs.length:Int)-1).toNat=hs.length-1:=om;have hzo:zop=0\/zop=1\/zop=2\/zop=3\/zop=4\/zop=5:=by
        rcases hlast with h|⟨h,_⟩|⟨h,_⟩|⟨h,_⟩|⟨h,_⟩|⟨h,_⟩<;>omega
       clear hlast;rcases hzo with rfl|rfl|rfl|rfl|rfl|rfl
       all_goals
        simp at HE
        go_wp2_with fail
        go_ret
        exact⟨by rw[HE.out];rfl,eG.trans x1⟩
theorem GOk.progE0 {runes:Bool}{caps:Int}{G:List Ins}(h:GOk runes caps G):progE runes caps G=0:=by
 have h1:=h.len;have h2:=h.cap9;have hl:G.length-1<G.length:=om;rw[progE_end om om h.ins hl,if_pos (h.last hl)]
theorem accepts_any (A:Option Addr)(c:Nat)(hs:List Hin)(rn:Bool)(caps:Int)(hG:GOk rn caps (insL hs))(w:World)(hp:PL w A c hs) :
 Calls Tryz.prog 61 #[.agg #[.slice A hs.length c,.int .i64 caps,.bool rn]] w (RetV (.int .i64 0) w):=by
 have hn8:=hG.len;rw[insL_len] at hn8;have hcap:=hp.len;have BG:=Blk.new w 35 #[.slice A hs.length c,.int .i64 caps,.bool rn];have EG:=Ext.alloc w (.cells #[.slice A hs.length c,.int .i64 caps,.bool rn] 35);have HP:=lh hp;have HNA:=lh (fun k (hk:k<hs.length)=>show hs[k].op≠5 by
  have h:=hG.plain k (by rw[insL_len];exact hk)
  simpa[insL,Hin.ins] using h)
 have HV:=fun(w':World) (x:Ext w w')=>lh (show Calls Tryz.prog 82 #[.agg #[.slice A hs.length c,.int .i64 caps,.bool rn]] w' (RetV (.int .i64 0) w') by
  have h:=progValid_any A c hs rn caps w' (hp.ext x);rw[hG.progE0] at h;exact h)
 clear hG hp;go_enter Tryz.func61,Tryz.ntmps61
 go_upto_region 1 with fail
 obtain⟨g1,hg1⟩:∃g,g=w.heap.size:=⟨_,rfl⟩
 rw[<-hg1] at BG ⊢;clear hg1;generalize w.alloc (.cells #[.slice A hs.length c,.int .i64 caps,.bool rn] 35)=w1 at *;have b0:w1.cell? ⟨g1,0,none⟩=some (.slice A hs.length c):=BG.cell 0;have b1:w1.cell? ⟨g1,1,none⟩=some (.int .i64 caps):=BG.cell 1;have b2:w1.cell? ⟨g1,2,none⟩=some (.bool rn):=BG.cell 2;have HV1:=HV _ EG;clear HV
 go_upto_region 5 with(go_at_call 82;refine HV1.out.mono ?_;rintro e w2 ⟨rfl,x2⟩;have d0:=x2.cell b0)
 clear b0 b1 b2 d0 HV1;have HP2:=lh (HP.out.ext (EG.trans x2));have X2:=EG.trans x2;clear HP EG x2 BG
 go_loopw [14] (fun v wr=>∃k:Nat,v=.int .i64 k/\k<=hs.length/\Ext w2 wr) (fun v _=>hs.length-(intOf v).toNat)
 case atStart=>exact⟨0,rfl,om,Ext.rfl' _⟩
 case round=>
  obtain⟨k,rfl,hk,x3⟩:=hrel;by_cases hlt:k<hs.length
  ·have hkI:(k:Int)<hs.length:=om;have hne:=HNA.out k hlt;obtain⟨ib,io,hiA,o0,o1,o2,o3,o4⟩:=(HP2.out.ext x3).get hlt;generalize hs[k]=h at *;obtain⟨hop,hx,hy,hn,hhA,hc,hl⟩:=h
   simp only at o0 o1 o2 o3 o4 hne
   subst hiA;have hnb:(hop == 5)=false:=by rw[beq_eq_false_iff_ne];exact hne
   have EI:=Ext.alloc wr (.cells #[.int .i64 hop,.int .i64 hx,.int .i64 hy,.int .i64 hn,.slice hhA hl.length hc] 129);have xf:=x3.trans EI
   go_wp2_with fail
   go_roundw
   case rel=>exact⟨k+1,by go_num,om,xf⟩
   case measure=>simp[intOf];omega
  ·obtain rfl:k=hs.length:=om
   go_wp2_with fail
   go_ret
   exact⟨rfl,X2.trans x3⟩
def RetNew2 (hs:List Hin)(runes:Bool)(caps:Int)(w:World)(e:Ending)(w':World):Prop:=∃gs q F,e=.returned (.tuple #[.pointer (some ⟨gs,0,none⟩),.int .i64 0])/\insL q.cd.hs=insL hs/\StrS w' F gs q runes caps 0 [] false/\(∀b,F b->F2 w w' (fun _=>False) b)/\Ext w w'/\∀w'',KpP (fun b=>F b\/b<w.heap.size) w' w''->CdAt w'' q.gc q.cd
theorem snew_any (A:Option Addr)(c:Nat)(hs:List Hin)(rn:Bool)(caps:Int)(hG:GOk rn caps (insL hs))(w:World)(hp:PL w A c hs)(hsz:∀h∈hs,h.l.length<=40)(hgd:∀h∈hs,∀s∈h.l,-1000000000<=s.1/\s.1<=1000000000/\-1000000000<=s.2/\s.2<=1000000000) :
 Calls Tryz.prog 14 #[.agg #[.slice A hs.length c,.int .i64 caps,.bool rn]] w (RetNew2 hs rn caps w):=by
 have BG:=Blk.new w 35 #[.slice A hs.length c,.int .i64 caps,.bool rn];have EG:=Ext.alloc w (.cells #[.slice A hs.length c,.int .i64 caps,.bool rn] 35);have HG:=lh hG;have HV:=fun(w':World) (x:Ext w w')=>lh (accepts_any A c hs rn caps hG w' (hp.ext x));have HNC:=fun(w':World) (x:Ext w w')=>lh (newCode_any A c hs rn rn caps hG w' (hp.ext x) hsz hgd);clear hG hp hsz hgd;go_enter Tryz.func14,Tryz.ntmps14
 go_upto_region 1 with fail
 obtain⟨g1,hg1⟩:∃g,g=w.heap.size:=⟨_,rfl⟩
 rw[<-hg1] at BG ⊢;clear hg1;generalize w.alloc (.cells #[.slice A hs.length c,.int .i64 caps,.bool rn] 35)=w1 at *;have b0:w1.cell? ⟨g1,0,none⟩=some (.slice A hs.length c):=BG.cell 0;have b1:w1.cell? ⟨g1,1,none⟩=some (.int .i64 caps):=BG.cell 1;have b2:w1.cell? ⟨g1,2,none⟩=some (.bool rn):=BG.cell 2;have HV1:=HV _ EG;clear HV
 go_upto_region 4 with(go_at_call 61;refine HV1.out.mono ?_;rintro e w2 ⟨rfl,x2⟩)
 have d0:=x2.cell b0;have d1:=x2.cell b1;have d2:=x2.cell b2;have X2:=EG.trans x2;have HNC2:=HNC _ X2;clear b0 b1 b2 HV1 HNC BG EG x2
 go_wp2_with fail
 refine HNC2.out.mono ?_;rintro e w3 ⟨gc,cd,rfl,hcd,hrn,hins,hok,x3,hcK⟩;have HCK:=lh hcK;have hw2:=X2.size;clear hcK;clear HNC2 d0 d1 d2;have HGC:=lh (show GOk rn caps (insL cd.hs) by rw[hins];exact HG.out);have HNM:=lh (newMachine_any gc cd rn caps HGC.out w3 hcd hok.ls);have X3:=X2.trans x3;clear X2 x3
 go_wp2_with fail
 refine HNM.out.mono ?_;rintro e w4 ⟨q,fv,sts,rfl,hqc,hqd,hma,hf,hl1,hz0,x4⟩;have BS:=Blk.new w4 126 #[.pointer (some ⟨q.gm,0,none⟩),.slice none 0 0,.int .i64 0,.int .i64 1,.bool false,.bool false];have ES:=Ext.alloc w4 (.cells #[.pointer (some ⟨q.gm,0,none⟩),.slice none 0 0,.int .i64 0,.int .i64 1,.bool false,.bool false] 126);have HF:=lh (show RetNew2 hs rn caps w (.returned (.tuple #[.pointer (some ⟨w4.heap.size,0,none⟩),.int .i64 0])) (w4.alloc (.cells #[.pointer (some ⟨q.gm,0,none⟩),.slice none 0 0,.int .i64 0,.int .i64 1,.bool false,.bool false] 126)) by
  generalize w4.alloc (.cells #[.pointer (some ⟨q.gm,0,none⟩),.slice none 0 0,.int .i64 0,.int .i64 1,.bool false,.bool false] 126)=w5 at *;have X4:=x4.trans ES;subst hqd;subst hqc;have hSt:StmI w5 (fun b=>w3.heap.size<=b) w4.heap.size q none 0 0 1 1 0 false false fv sts []:=⟨BS,OwnS.nil _ _ _ _,hma.ext ES,fun z hz=>by rw[hz0 z hz];exact Int.le_refl _,by simp,by simp,by simp[fpR],by simp[fpR],x4.size,by simp,by simp,by simp⟩;have hT:=hSt.tight;refine⟨w4.heap.size,q,_,rfl,hins,⟨⟨none,0,1,0,fv,sts,[],hT,hf,List.Perm.refl _,⟨om,om⟩,⟨om,by simp⟩,om⟩,HGC.out,hrn,hok,fun w' kk=>?_,fun b hb=>hb.2.1,by simp,fun _=>⟨rfl,rfl⟩,by simp⟩,fun b hb=>⟨.inr (Nat.le_trans X3.size hb.1),hb.2.1,hb.2.2⟩,X3.trans X4,fun w'' kk=>?_⟩;rotate_left
  ·exact HCK.out w'' (KpP.chain (KpP.of_ext X4) kk (fun i hi=>by
    rcases hi with hi|hi
    ·exact .inr hi.1
    ·exact .inl om))
  exact hcd.ext' (X4.kp kk (fun i hi=>hi.1)))
 go_wp2_with fail
 go_ret2
 exact HF.out
end
section
open Go.RowKit
structure StT (w:World)(F:Nat->Prop)(gs:Nat)(q:Mq)(runes:Bool)(caps:Int)(N:Nat)(I:List Itm)(bg:Bool):Prop where
 s:StrS w F gs q runes caps N I bg
 np:∀b,F b->nP w b
def RsL (w:World)(A:Option Addr)(c:Nat)(R:List (Int×Int)):Prop:=OwnS w 0 54 2 A R.length c (flatS R)
theorem RsL.kp {w w':World}{F:Nat->Prop}{A:Option Addr}{c:Nat}{R:List (Int×Int)}(h:RsL w A c R)(k:KpP F w w')(np:∀b,F b->nP w b):RsL w' A c R:=
 OwnS.kp h k (fun b hb e=>by
  obtain⟨hl,cur,hh⟩:=OwnS.blt h hb;exact np b e cur hh)
theorem RsL.ext {w w':World}{A:Option Addr}{c:Nat}{R:List (Int×Int)}(h:RsL w A c R)(x:Ext w w'):RsL w' A c R:=OwnS.ext h x
theorem RsL.sl {w:World}{A:Option Addr}{c:Nat}{R:List (Int×Int)}(h:RsL w A c R)(hr:∀s∈R,S64 s):SL w A c R:=SL.of_ownT h hr
theorem nP.kp {w w':World}{p:Nat->Prop}{b:Nat}(h:nP w b)(k:KpP p w w')(hb:b<w.heap.size)(hp:¬p b):nP w' b:=fun cs e=>h cs ((k.block b hb hp).symm.trans e)
theorem StT.other {w w':World}{F G:Nat->Prop}{gs:Nat}{q:Mq}{runes:Bool}{caps:Int}{N:Nat}{I:List Itm}{bg:Bool}(h:StT w G gs q runes caps N I bg)(k:KpP F w w')(hd:∀b,F b->¬G b)(hc:∀w'',KpP G w' w''->CdAt w'' q.gc q.cd):StT w' G gs q runes caps N I bg:=
 ⟨h.s.kp k (fun b hb hf=>hd b hf hb) hc,fun b hb=>(h.np b hb).kp k (h.s.lt b hb) (fun hf=>hd b hf hb)⟩
theorem F2.apart {w w':World}{F G:Nat->Prop}(hd:∀b,F b->¬G b)(hl:∀b,G b->b<w.heap.size):∀b,F2 w w' F b->¬G b:=fun b hf hg=>by
 rcases hf.1 with h|h
 ·exact hd b h hg
 ·have:=hl b hg;omega
theorem F2.sub {W0 w w':World}{F U:Nat->Prop}(hF:∀b,F b->U b)(hU:∀b,W0.heap.size<=b->U b)(hw:W0.heap.size<=w.heap.size):∀b,F2 w w' F b->U b:=fun b hf=>by
 rcases hf.1 with h|h
 ·exact hF b h
 ·exact hU b om
theorem FdO.t {w w':World}{F:Nat->Prop}{gs:Nat}{q:Mq}{runes:Bool}{caps:Int}{N:Nat}{I:List Itm}{bg:Bool}{piece:List Int}{A:Option Addr}{c:Nat}{R:List (Int×Int)}(h:FdO w w' F gs q runes caps N I bg piece A c R) :
 StT w' (F2 w w' F) gs q runes caps (N+piece.length) (feedI (insL q.cd.hs) (decL q.cd.ls) piece N I bg).1 true/\RsL w' A c R:=
 ⟨⟨h.st,fun b hb=>hb.2.2⟩,h.ow⟩
theorem perm_s64 {R S:List (Int×Int)}{M:Int}(hp:R.Perm S)(hk:∀r∈R,0<=r.1/\r.1<=M)(he:∀r∈R,-1<=r.2/\r.2<=M)(hM:M<=1000000):∀s∈S,S64 s:=fun s hs=>by
 have h1:=hk s (hp.mem_iff.2 hs);have h2:=he s (hp.mem_iff.2 hs);exact⟨by unfold I64;omega,by unfold I64;omega⟩
theorem IL.takeV {w:World}{A:Option Addr}{c:Nat}{xs:List Int}(h:IL w A c xs)(k:Nat):IL w A c (xs.take k):=by
 refine⟨by rw[List.length_take];have:=h.le;omega,h.cap,fun x hx=>h.rng x (List.mem_of_mem_take hx),fun hn=>?_⟩;obtain⟨b,o,hA,hc⟩:=h.at_ (by rintro rfl;simp at hn);exact⟨b,o,hA,fun i hi=>by rw[List.getElem_take];exact hc i (by rw[List.length_take] at hi;omega)⟩
end
section
open Go.RowKit
attribute [local go_sem ↓] Go.wp_at_zero Go.wp_at_succ
structure Pc where
 A:Option Addr
 c:Nat
 l:List Int
def Pc.v (p:Pc):Value:=.slice p.A p.l.length p.c
def SomeA (P:Option Addr)(c:Nat):Prop:=(P=none/\c=0)\/∃g o,P=some ⟨g,o,none⟩
theorem infoIL:(Tryz.prog.info? 22).map (fun i=>(i.zero,i.size,i.bytes))=some (some (.slice none 0 0),1,24):=by kernel_rfl
def RetPcs (ts:List Int)(w:World)(e:Ending)(w':World):Prop:=∃(A:Option Addr) (c:Nat) (ps:List Pc),e=.returned (.slice A ps.length c)/\OwnS w' w.heap.size 22 1 A ps.length c (ps.map Pc.v)/\(∀p∈ps,IL w' p.A p.c p.l)/\(ps.map (·.l)).flatten=ts/\(1<=ps.length/\ps.length<=5)/\Ext w w'
theorem pcsEnd {P:Prop}(h:P:=by
 go_wp2_with (at_builtin;refine wpList_app _ rfl _ _ _ rfl w.heap.size 22 iI _ 1 24 Tryz.underlying49 jI0 jI1 jI2 jI3 rfl om A ps.length c (ps.map Pc.v) rfl (OwnS.ext HO.out HEI.out) _ 1 1 [.slice P rs.length pc] rfl rfl (blk_cells BI.out) (by intro u hu;rw[List.mem_singleton.1 hu];rfl) um om (Nat.le_trans HX.out.size HEI.out.size) ?_;intro A8 c8 w8 ho8 hg8 hat8)
 have X8:=lh (Ext.app (HX.out.trans HEI.out) (OwnS.ext HO.out HEI.out) hg8);have HO8:Hid (OwnS w8 w.heap.size 22 1 A8 (ps++[(⟨P,pc,rs⟩:Pc)]).length c8 ((ps++[(⟨P,pc,rs⟩:Pc)]).map Pc.v)):=lh (by
  rw[List.map_append,List.length_append];exact ho8)
 have HL8:Hid ((ps++[(⟨P,pc,rs⟩:Pc)]).length=ps.length+1):=lh si;refine bodyPost_ret (v:=.slice A8 (ps.length+1) c8) (by simp[results,Tryz.results24,go_sem]) rfl ⟨A8,c8,ps++[⟨P,pc,rs⟩],by rw[HL8.out],HO8.out,fun p hp=>?_,?_,by rw[HL8.out];omega,X8.out⟩
 ·rcases List.mem_append.1 hp with hp|hp
  ·exact(HPS.out p hp).ext X8.out
  ·rw[List.mem_singleton.1 hp];exact HI.out.ext X8.out
 ·rw[List.map_append,List.flatten_append,<-HE.out];simp):P:=h
theorem sPieces_any (w:World)(T:Option Addr)(tc:Nat)(ts:List Int)(C:Option Addr)(cc:Nat)(cs:List Int)(hT:IL w T tc ts)(hS:SomeA T tc)(hC:IL w C cc cs)(htl:ts.length<=1000) :
 Calls Tryz.prog 24 #[.slice T ts.length tc,.slice C cs.length cc] w (RetPcs ts w):=by
 have HC:=lh hC;have hcl:=hC.len;have HI0:=lh hT;have HS0:=lh hS;obtain⟨iI,jI0,jI1,jI2,jI3⟩:=info_parts infoIL;clear hT hC hS;go_enter Tryz.func24,Tryz.ntmps24
 go_upto_region 3 with fail
 go_loopw [0,5,6] (fun v0 v5 v6 wr=>∃(i:Nat) (P:Option Addr) (pc:Nat) (rs:List Int) (A:Option Addr) (c:Nat) (ps:List Pc),v0=.slice P rs.length pc/\v5=.slice A ps.length c/\v6=.int .i64 i/\i<=4/\rs.length<=1000/\Hid (ps.length=i)/\Hid (IL w P pc rs)/\Hid (SomeA P pc)/\Hid (OwnS wr w.heap.size 22 1 A ps.length c (ps.map Pc.v))/\Hid (∀p∈ps,IL w p.A p.c p.l)/\Hid ((ps.map (·.l)).flatten++rs=ts)/\Hid (Ext w wr)) (fun _ _ v _=>4-(intOf v).toNat)
 case atStart=>exact⟨0,T,tc,ts,none,0,[],rfl,rfl,rfl,om,htl,lh rfl,HI0,HS0,lh (OwnS.nil _ _ _ _),lh si,lh si,lh (Ext.rfl' _)⟩
 case round=>
  clear HI0 HS0;obtain⟨i,P,pc,rs,A,c,ps,rfl,rfl,rfl,hi,hrl,HPL,HI,HS,HO,HPS,HE,HX⟩:=hrel;have hpc1:=HI.out.len;have hpl:ps.length<=4:=by have:=HPL.out;omega
  by_cases hlt:i<cs.length/\i<4
  ·obtain⟨h1,h2⟩:=hlt;have h1I:(i:Int)<(cs.length:Int):=om;have h2I:(i:Int)<4:=om;obtain⟨b,o,rfl,hc⟩:=(HC.out.ext HX.out).get h1;have hrg:=HC.out.rng cs[i] (List.getElem_mem h1);generalize cs[i]=y at *;have HAR:=lh (around_any y ((rs.length:Int)+1) wr hrg om om);have hbd:=around_bd y ((rs.length:Int)+1) om
   go_upto_region 6 with(go_at_call 13;refine HAR.out.mono ?_;rintro e w4 h4;obtain⟨rfl,x4⟩:=h4.v)
   obtain⟨n,hn⟩:∃n:Nat,around y ((rs.length:Int)+1)=(n:Int):=⟨(around y ((rs.length:Int)+1)).toNat,om⟩;rw[hn] at hbd ⊢;have hnl:n<=rs.length:=om;have hnI:(n:Int)<=(rs.length:Int):=om;have hnP:(n:Int)<=(pc:Int):=om;have hnP2:n<=pc:=om;have HI4:=HI;have HO4:=lh (OwnS.ext HO.out x4);have HPS4:=HPS;have HX4:=lh (HX.out.trans x4);have HLT:Hid ((rs.take n).length=n):=lh (by rw[List.length_take];omega);have HLD:Hid ((rs.drop n).length=rs.length-n):=lh (by rw[List.length_drop]);have BI:=lh (Blk.new w4 22 #[.slice P n pc]);have HEI:=lh (Ext.alloc w4 (.cells #[.slice P n pc] 22));clear hn hbd HAR hc x4 HI HO HPS HX hrg
   go_upto_region 7 with(at_builtin;refine wpList_app _ rfl _ _ _ rfl w.heap.size 22 iI _ 1 24 Tryz.underlying49 jI0 jI1 jI2 jI3 rfl om A ps.length c (ps.map Pc.v) rfl (OwnS.ext HO4.out HEI.out) _ 1 1 [.slice P n pc] rfl rfl (blk_cells BI.out) (by intro u hu;rw[List.mem_singleton.1 hu];rfl) um om (Nat.le_trans HX4.out.size HEI.out.size) ?_;intro A8 c8 w8 ho8 hg8 hat8)
   have X8:=lh (Ext.app (HX4.out.trans HEI.out) (OwnS.ext HO4.out HEI.out) hg8);have HO8:Hid (OwnS w8 w.heap.size 22 1 A8 (ps++[(⟨P,pc,rs.take n⟩:Pc)]).length c8 ((ps++[(⟨P,pc,rs.take n⟩:Pc)]).map Pc.v)):=lh (by
    rw[List.map_append,List.length_append];have h:=ho8;have e:[(⟨P,pc,rs.take n⟩:Pc)].map Pc.v=[.slice P n pc]:=by simp[Pc.v,HLT.out]
    rw[e];exact h)
   have HP8:Hid (∀p∈ps++[(⟨P,pc,rs.take n⟩:Pc)],IL w p.A p.c p.l):=lh (fun p hp=>by
    rcases List.mem_append.1 hp with hp|hp
    ·exact HPS4.out p hp
    ·rw[List.mem_singleton.1 hp];exact HI4.out.takeV n)
   have HE8:Hid (((ps++[(⟨P,pc,rs.take n⟩:Pc)]).map (·.l)).flatten++rs.drop n=ts):=lh (by
    rw[List.map_append,List.flatten_append,<-HE.out]
    simp)
   have HL8:Hid ((ps++[(⟨P,pc,rs.take n⟩:Pc)]).length=ps.length+1):=lh si;have HN8:Hid ((ps++[(⟨P,pc,rs.take n⟩:Pc)]).length=i+1):=lh (by rw[HL8.out,HPL.out]);clear ho8 hg8 hat8 HO4 HPS4 HX4 HEI BI;generalize ps++[(⟨P,pc,rs.take n⟩:Pc)]=us at *;by_cases hce:pc=n
   ·have hceI:(pc:Int)=(n:Int):=om;have HI8:Hid (IL w P (pc-n) (rs.drop n)):=lh (by
     have h:=IL.dropN HI4.out hnl;have e:dropI P pc n=P:=by unfold dropI;rw[if_pos hce]
     rwa [e] at h)
    have HS8:Hid (SomeA P (pc-n)):=lh (by
     rcases HS.out with⟨h1,h2⟩|h
     ·exact .inl ⟨h1,om⟩
     ·exact .inr h)
    clear hce HI4 HS
    go_wp2_with fail
    go_roundw
    case rel=>exact⟨i+1,P,pc-n,rs.drop n,A8,c8,us,by rw[HLD.out],by rw[HL8.out],by go_num,om,by have:=HLD.out;omega,HN8,HI8,HS8,HO8,HP8,HE8,X8⟩
    case measure=>simp[intOf];omega
   ·have hceI:¬(pc:Int)=(n:Int):=om;obtain⟨tg,to_,htg⟩:∃tg to_,P=some ⟨tg,to_,none⟩:=by
     rcases HS.out with⟨_,h⟩|h
     ·omega
     ·exact h
    have HI8:Hid (IL w (some ⟨tg,to_+n,none⟩) (pc-n) (rs.drop n)):=lh (by
     have h:=IL.dropN HI4.out hnl;have e:dropI P pc n=some ⟨tg,to_+n,none⟩:=by unfold dropI;rw[if_neg hce,htg,Option.map_some,Addr.add_lit]
     rwa [e] at h)
    have HS8:Hid (SomeA (some ⟨tg,to_+n,none⟩) (pc-n)):=lh (.inr ⟨_,_,rfl⟩);clear hce HI4 HS;subst htg
    go_wp2_with fail
    go_roundw
    case rel=>exact⟨i+1,some ⟨tg,to_+n,none⟩,pc-n,rs.drop n,A8,c8,us,by rw[HLD.out],by rw[HL8.out],by go_num,om,by have:=HLD.out;omega,HN8,HI8,HS8,HO8,HP8,HE8,X8⟩
    case measure=>simp[intOf];omega
  ·have BI:=lh (Blk.new wr 22 #[.slice P rs.length pc]);have HEI:=lh (Ext.alloc wr (.cells #[.slice P rs.length pc] 22));by_cases h1:i<cs.length
   ·have h1I:(i:Int)<(cs.length:Int):=om;have h2I:¬(i:Int)<4:=om;exact pcsEnd
   ·have h1I:¬(i:Int)<(cs.length:Int):=om;exact pcsEnd
end
section
open Go.RowKit
theorem feed_len {G:List Ins}{D:St->Bool}(t:List Int):(feedI G D t 0 [] false).2.length<=2+t.length:=by
 unfold feedI bgIt;simp only[Bool.false_eq_true,if_false];have h:=(runI_len G D t 0 (openI D [startI G 0])).2;have h1:(openI D [startI G 0]).length<=1:=List.length_filter_le _ _;have h2:(resI D [startI G 0]).length<=1:=Nat.le_trans (List.length_filterMap_le _ _) (List.length_filter_le _ _);rw[List.length_append];omega
end
section
open Go.RowKit
attribute [local go_sem ↓] Go.wp_at_zero Go.wp_at_succ
def RetPs (gA:Option Addr)(n gc:Nat)(caps:Int)(rn:Bool)(T:Option Addr)(tn tc:Nat)(w:World)(e:Ending)(w':World):Prop:=∃gm gM:Nat,e=.returned (.tuple #[.pointer (some ⟨gm,0,none⟩),.int .i64 0])/\Ext w w'/\
 Blk w' gm 258 #[.slice gA n gc,.int .i64 caps,.bool rn,.slice T tn tc,.slice (some ⟨gM,0,none⟩) n n]/\Blk w' gM 3 (iInts (List.replicate n 0))/\w.heap.size<=gM
theorem pstart_any (w:World)(gA:Option Addr)(gc:Nat)(hs:List Hin)(caps:Int)(rn:Bool)(T:Option Addr)(tc:Nat)(ts:List Int)(hP:PL w gA gc hs)(hE:progE rn caps (insL hs)=0)(hn:hs.length<=8192)(htl:ts.length<=65536) :
 Calls Tryz.prog 74 #[progV gA hs.length gc caps rn,.slice T ts.length tc] w (RetPs gA hs.length gc caps rn T ts.length tc w):=by
 have hgl:=hP.len;have EB:=Ext.alloc w (.cells #[.slice gA hs.length gc,.int .i64 caps,.bool rn] 35);have BB:=Blk.new w 35 #[.slice gA hs.length gc,.int .i64 caps,.bool rn];have hmk:=mkIP hs.length om;unfold progV;go_enter Tryz.func74,Tryz.ntmps74
 go_upto_region 1 with fail
 obtain⟨gq,hgq⟩:∃q,q=w.heap.size:=⟨_,rfl⟩
 rw[<-hgq] at BB ⊢;clear hgq;generalize w.alloc (.cells #[.slice gA hs.length gc,.int .i64 caps,.bool rn] 35)=wa at *;have HV:=lh (progValid_any gA gc hs rn caps wa (hP.ext EB));unfold progV at HV;rw[hE] at HV;have q0:wa.cell? ⟨gq,0,none⟩=some (.slice gA hs.length gc):=BB.cell 0;have q1:wa.cell? ⟨gq,1,none⟩=some (.int .i64 caps):=BB.cell 1;have q2:wa.cell? ⟨gq,2,none⟩=some (.bool rn):=BB.cell 2;clear hE hP
 go_upto_region 6 with(go_at_call 82;refine HV.out.mono ?_;rintro e w2 ⟨rfl,x2⟩)
 have X2:=lh (EB.trans x2);have k0:=fun(w':World) (h:Kp [] w2 w')=>h.cell (x2.cell q0) si;have k1:=fun(w':World) (h:Kp [] w2 w')=>h.cell (x2.cell q1) si;have k2:=fun(w':World) (h:Kp [] w2 w')=>h.cell (x2.cell q2) si;clear q0 q1 q2 HV EB BB x2;refine Xr.start [] kr ?_;refine Xtk 0 ?_
 iterate 4(refine Xtn ?_)
 refine Xcl 5 fun w3 hE3 hK3 K hKK=>?_;go_simp;refine hKK _ _ (Ext.alloc _ _) ?_;have BM:=Blk.new w3 3 (iInts (List.replicate hs.length 0));have XM:=Ext.alloc w3 (.cells (iInts (List.replicate hs.length 0)) 3);obtain⟨gM,hgM⟩:∃g,g=w3.heap.size:=⟨_,rfl⟩
 rw[<-hgM] at BM ⊢;have X3:=lh hK3.nil;have HGM:Hid (w.heap.size<=gM):=lh (by rw[hgM];exact Nat.le_trans X2.out.size hK3.nil.size);clear hgM hKK hmk;generalize w3.alloc (.cells (iInts (List.replicate hs.length 0)) 3)=w4 at *;refine ptm ?_;refine Xtk 6 ?_;refine Xcl 7 fun w5 hE5 hK5 K hKK=>?_;go_simp;refine hKK _ _ (Ext.alloc _ _) ?_;have BG:=Blk.new w5 258 #[.slice gA hs.length gc,.int .i64 caps,.bool rn,.slice T ts.length tc,.slice (some ⟨gM,0,none⟩) hs.length hs.length];have XG:=Ext.alloc w5 (.cells #[.slice gA hs.length gc,.int .i64 caps,.bool rn,.slice T ts.length tc,.slice (some ⟨gM,0,none⟩) hs.length hs.length] 258);have B5:=BM.ext hE5;obtain⟨gm,hgm⟩:∃g,g=w5.heap.size:=⟨_,rfl⟩
 rw[<-hgm] at BG ⊢;clear hgm hKK;generalize w5.alloc (.cells #[.slice gA hs.length gc,.int .i64 caps,.bool rn,.slice T ts.length tc,.slice (some ⟨gM,0,none⟩) hs.length hs.length] 258)=w6 at *;refine ptm ?_;refine Xtk 8 ?_;refine Xtn ?_;refine Xdn fun w7 hE7 hK7=>?_;have HX:=lh (((((X2.out.trans X3.out).trans XM).trans hE5).trans XG).trans hE7);have HG:=lh (BG.ext hE7);have HM:=lh (B5.ext (XG.trans hE7));clear k0 k1 k2 X2 X3 hE3 hK3 hE5 hK5 hE7 hK7 BG XG B5 BM XM
 go_wp2_with fail
 exact bodyPost_ret (v:=.tuple #[.pointer (some ⟨gm,0,none⟩),.int .i64 0]) (by simp[results,Tryz.results74,go_sem]) rfl ⟨gm,gM,rfl,HX.out,HG.out,HM.out,HGM.out⟩
def RetPgm (w0 w:World)(gm gM:Nat)(gA:Option Addr)(n gc:Nat)(caps:Int)(rn:Bool)(T:Option Addr)(tn tc:Nat)(fr:Int)(R:Bool×Int)(e:Ending)(w':World):Prop:=∃(st:Int) (A:Option Addr) (m c:Nat),e=.returned (.tuple #[.agg #[.int .i64 st,.int .i64 R.2,.slice A m c],.bool R.1])/\Ext w0 w'/\(R.1=true->st=fr)/\
 Blk w' gm 258 #[.slice gA n gc,.int .i64 caps,.bool rn,.slice T tn tc,.slice (some ⟨gM,0,none⟩) n n]/\(∃ms:List Int,ms.length=n/\Blk w' gM 3 (iInts ms))/\KpP (fun b=>b=gM) w w'
theorem pfirst_any (w0 w:World)(gm gM:Nat)(gA:Option Addr)(gc:Nat)(hs:List Hin)(caps:Int)(rn:Bool)(T:Option Addr)(tc:Nat)(ts:List Int)(i:Nat)
 (hG:GOk rn caps (insL hs)) (hP:PL w0 gA gc hs) (x0:Ext w0 w) (hT:IL w0 T tc ts) (bm:Blk w gm 258 #[.slice gA hs.length gc,.int .i64 caps,.bool rn,.slice T ts.length tc,.slice (some ⟨gM,0,none⟩) hs.length hs.length])
 (bM:∃ms:List Int,ms.length=hs.length/\Blk w gM 3 (iInts ms)) (hM0:w0.heap.size<=gM) (hi:i<=ts.length) (htl:ts.length<=65536) :
 Calls Tryz.prog 75 #[.pointer (some ⟨gm,0,none⟩),.int .i64 i,.int .i64 i] w (RetPgm w0 w gm gM gA hs.length gc caps rn T ts.length tc (i:Int) (pkR (insL hs) (ts.drop i) i (stateG (insL hs) [0]) (false,0))):=by
 obtain⟨n2,hn2⟩:∃n2:Nat,2*caps=(n2:Int):=⟨(2*caps).toNat,by have:=hG.cap9;omega⟩;obtain⟨R,hR⟩:∃R,R=pkR (insL hs) (ts.drop i) i (stateG (insL hs) [0]) (false,0):=⟨_,rfl⟩
 rw[<-hR];have HR:=lh hR;clear hR;have egs:=egPSee;have HS1:Hid ((w.alloc (.cells #[.pointer (some ⟨gm,0,none⟩)] 153)).heap.size=w.heap.size+1):=lh (by show(w.heap.push _).size=_;rw[Array.size_push]);go_enter Tryz.func75,Tryz.ntmps75;have E3:=Ext.alloc w (.cells #[.pointer (some ⟨gm,0,none⟩)] 153);have B3:=Blk.new w 153 #[.pointer (some ⟨gm,0,none⟩)]
 go_upto_region 1 with fail
 have hs1:=HS1.out;obtain⟨g3,h3⟩:∃g,g=w.heap.size:=⟨_,rfl⟩
 rw[<-h3] at B3 hs1 ⊢;have H3:=lh h3;clear h3;generalize w.alloc (.cells #[.pointer (some ⟨gm,0,none⟩)] 153)=w1 at *;have E6:=Ext.alloc w1 (.cells #[.int .i64 0,.int .i64 0,.slice none 0 0] 56);have B6:=Blk.new w1 56 #[.int .i64 0,.int .i64 0,.slice none 0 0];obtain⟨g6,h6⟩:∃g,g=w1.heap.size:=⟨_,rfl⟩
 rw[<-hs1,<-h6]
 rw[<-h6] at B6;clear hs1 HS1;have H6:=lh h6;clear h6;generalize w1.alloc (.cells #[.int .i64 0,.int .i64 0,.slice none 0 0] 56)=w2 at *
 go_upto_region 2 with fail
 have E8:=Ext.alloc w2 (.cells #[.int .i64 0,.int .i64 0,.slice none 0 0] 56);have B8:=Blk.new w2 56 #[.int .i64 0,.int .i64 0,.slice none 0 0];obtain⟨g8,h8⟩:∃g,g=w2.heap.size:=⟨_,rfl⟩
 rw[<-h8] at B8 ⊢;have H8:=lh h8;clear h8;generalize w2.alloc (.cells #[.int .i64 0,.int .i64 0,.slice none 0 0] 56)=w3 at *;have E9:=Ext.alloc w3 (.cells #[.bool false] 4);have B9:=Blk.new w3 4 #[.bool false]
 go_upto_region 3 with fail
 obtain⟨g9,h9⟩:∃g,g=w3.heap.size:=⟨_,rfl⟩
 rw[<-h9] at B9 ⊢;generalize w3.alloc (.cells #[.bool false] 4)=w4 at *;have h3:=H3.out;have h6:=H6.out;have h8:=H8.out;have X4:=((E3.trans E6).trans E8).trans E9;have s0:=x0.size;have s1:=E3.size;have s2:=E6.size;have s3:=E8.size;have l6:=B6.lt;have l3:=B3.lt;have HRUN:=lh (prun_any w0 w4 gm gM g3 g8 g9 g6 gA gc hs caps rn T tc ts n2 i 0 hG hP (x0.trans X4) hT hn2 (bm.ext X4) (by obtain⟨ms,h1,h2⟩:=bM;exact⟨ms,h1,h2.ext X4⟩) hM0 (B3.ext ((E6.trans E8).trans E9)) B9 ⟨0,none,0,0,B8.ext E9⟩ (B6.ext (E8.trans E9)) om ⟨om,om⟩ w (lh (KpP.of_ext X4)) ⟨om,om⟩ hi htl)
 rw[<-HR.out] at HRUN;have HN68:Hid (g6<g8):=lh om;have HL6:Hid (w0.heap.size<=g6):=lh om;have HW6:Hid (w.heap.size<=g6):=lh om;have HM3:=lh (B3.ext ((E6.trans E8).trans E9));have c3:w4.cell? ⟨g3,0,none⟩=some (.pointer (some ⟨gm,0,none⟩)):=HM3.out.cell 0;clear h3 h6 h8 h9 E3 E6 E8 E9 B3 B6 B8 B9 hP hG hT x0 bm bM hM0 hn2 s0 s1 s2 s3 l6 l3 X4 H3 H6 H8
 go_upto_region 4 with(go_at_call 149;refine HRUN.out.mono ?_;rintro e w5 ⟨rfl,x5,b9,⟨st,SA,sn,sc,b8,hst⟩,b6,bm5,bM5,k5⟩)
 have HST:=lh hst;have HBM5:=lh bm5;have HMM5:=lh bM5;have HK5:=lh k5;clear hst bm5 bM5 k5;obtain⟨y0,y1,y2,f0,f1,f2,_⟩:=b8.c3;have hb9:w5.cell? ⟨g9,0,none⟩=some (.bool R.1):=b9.cell 0;have n68:g8∉[g6]:=by have h1:=HN68.out;simp;omega
 have n69:g9∉[g6]:=by have h1:=blk_blk b6 b9 de;simp;omega
 have k0:=fun(w':World) (h:Kp [g6] w5 w')=>h.cell y0 n68;have k1:=fun(w':World) (h:Kp [g6] w5 w')=>h.cell y1 n68;have k2:=fun(w':World) (h:Kp [g6] w5 w')=>h.cell y2 n68;have k3:=fun(w':World) (h:Kp [g6] w5 w')=>h.cell hb9 n69;have X5:=lh x5;have B6':=lh b6;clear y0 y1 y2 f0 f1 f2 hb9 n68 n69 b8 b9 b6 x5 HRUN c3 HM3;refine Xr.start [g6] kr ?_;refine Xtk 0 ?_;refine Xtn ?_;refine Xsp 2 fun w6 hE6 hK6 K hKK=>?_;have c6:=B6'.out.ext hE6;obtain⟨y0,y1,y2,f0,f1,f2,_⟩:=c6.c3;go_simp;change K _ (setEd w6 g6 st R.2 SA sn sc);refine hKK _ _ (setEd_kpp (KpP.refl _ _) (.inl si) _ _ _ _ _) (setEd_kp hK6 si _ _ _ _ _) ?_;have c7:=setEd_blk c6 st R.2 SA sn sc;have X7:Ext w0 (setEd w6 g6 st R.2 SA sn sc):=Ext.kp (X5.out.trans hE6) (setEd_kpp (p:=(·=g6)) (KpP.refl _ _) rfl _ _ _ _ _) (fun b hb=>by have e:b=g6:=hb;have h1:=HL6.out;omega);have hkE:KpP (·=g6) w6 (setEd w6 g6 st R.2 SA sn sc):=setEd_kpp (p:=(·=g6)) (KpP.refl _ _) rfl _ _ _ _ _;have HBM7:=lh (hkE.blk (HBM5.out.ext hE6) (blk_blk (HBM5.out.ext hE6) c6 de));have HMM7:Hid (∃ms:List Int,ms.length=hs.length/\Blk (setEd w6 g6 st R.2 SA sn sc) gM 3 (iInts ms)):=lh (by
  obtain⟨ms,h1,h2⟩:=HMM5.out;exact⟨ms,h1,hkE.blk (h2.ext hE6) (blk_blk (h2.ext hE6) c6 de)⟩)
 have HK7:=lh ((HK5.out.trans (KpP.of_ext hE6)).chain hkE (fun b hb=>.inr (by have e:b=g6:=hb;have h1:=HW6.out;omega)));generalize setEd w6 g6 st R.2 SA sn sc=w7 at *;clear hKK y0 y1 y2 f0 f1 f2 c6 hE6 hK6 hkE;refine ptm ?_;refine Xtk 3 ?_;refine Xdn fun w8 hE8 hK8=>?_;have c8:=c7.ext hE8;obtain⟨y0,y1,y2,f0,f1,f2,_⟩:=c8.c3;have X8:=lh (X7.trans hE8);have HM8:=lh (And.intro (HBM7.out.ext hE8) (And.intro (show ∃ms:List Int,ms.length=hs.length/\Blk w8 gM 3 (iInts ms) by obtain⟨ms,h1,h2⟩:=HMM7.out;exact⟨ms,h1,h2.ext hE8⟩) (HK7.out.trans (KpP.of_ext hE8))));clear k0 k1 k2 k3 c7 X7 hE8 hK8
 go_wp2_with fail
 refine bodyPost_ret (v:=.tuple #[.agg #[.int .i64 st,.int .i64 R.2,.slice SA sn sc],.bool R.1]) (by simp[results,Tryz.results75,go_sem,y0,y1,y2]) rfl ⟨st,SA,sn,sc,rfl,X8.out,HST.out,HM8.out⟩
def pkAt (G:List Ins)(ts:List Int)(i:Nat):Bool×Int:=pkR G (ts.drop i) i (stateG G [0]) (false,0)
def evP (G:List Ins)(ts:List Int)(k:Nat):List (Int×Int):=(List.range k).filterMap (fun i=>if(pkAt G ts i).1=true then some ((i:Int),(pkAt G ts i).2) else none)
theorem evP_yes {G:List Ins}{ts:List Int}{k:Nat}(h:(pkAt G ts k).1=true):evP G ts (k+1)=evP G ts k++[((k:Int),(pkAt G ts k).2)]:=by
 unfold evP;rw[List.range_succ,List.filterMap_append];simp[h]
theorem evP_no {G:List Ins}{ts:List Int}{k:Nat}(h:(pkAt G ts k).1=false):evP G ts (k+1)=evP G ts k:=by
 unfold evP;rw[List.range_succ,List.filterMap_append];simp[h]
theorem evP_len (G:List Ins)(ts:List Int)(k:Nat):(evP G ts k).length<=k:=by
 unfold evP;exact Nat.le_trans (List.length_filterMap_le _ _) (by rw[List.length_range];exact Nat.le_refl _)
structure Mt where
 st:Int
 en:Int
 A:Option Addr
 n:Nat
 c:Nat
def Mt.se (m:Mt):Int×Int:=(m.st,m.en)
def Mt.cs (m:Mt):List Value:=[.int .i64 m.st,.int .i64 m.en,.slice m.A m.n m.c]
def flatMt (l:List Mt):List Value:=l.flatMap Mt.cs
theorem flatMt_app (l m:List Mt):flatMt (l++m)=flatMt l++flatMt m:=by simp[flatMt]
theorem flatMt_len (l:List Mt):(flatMt l).length=l.length*3:=by
 unfold flatMt;induction l with
 | nil=>rfl
 | cons x l ih=>rw[List.flatMap_cons,List.length_append,ih,List.length_cons];simp only[Mt.cs,List.length_cons,List.length_nil];omega
theorem flatMt_get (l:List Mt)(k:Nat)(hk:k<l.length):(flatMt l)[k*3]? = some (.int .i64 l[k].st)/\(flatMt l)[k*3+1]? = some (.int .i64 l[k].en):=by
 unfold flatMt;induction l generalizing k with
 | nil=>simp at hk
 | cons x l ih=>
  rw[List.flatMap_cons]
  cases k with
  | zero=>simp[Mt.cs]
  | succ k=>
   have h:=ih k (by simpa using hk);rw[List.getElem?_append_right (by show 3<=(k+1)*3;omega),List.getElem?_append_right (by show 3<=(k+1)*3+1;omega)];have e1:(k+1)*3-x.cs.length=k*3:=by show(k+1)*3-3=k*3;omega
   have e2:(k+1)*3+1-x.cs.length=k*3+1:=by show(k+1)*3+1-3=k*3+1;omega
   rw[e1,e2]
   simpa using h
theorem infoMt:(Tryz.prog.info? 56).map (fun i=>(i.zero,i.size,i.bytes))=some (some (.agg #[.int .i64 0,.int .i64 0,.slice none 0 0]),3,40):=by kernel_rfl
def RetEv (G:List Ins)(ts:List Int)(w:World)(e:Ending)(w':World):Prop:=∃(A:Option Addr) (c:Nat) (ms:List Mt),e=.returned (.tuple #[.slice A ms.length c,.int .i64 0])/\ms.map Mt.se=evP G ts (ts.length+1)/\OwnS w' w.heap.size 56 3 A ms.length c (flatMt ms)/\Ext w w'
theorem every_any (w:World)(gA:Option Addr)(gc:Nat)(hs:List Hin)(caps:Int)(rn:Bool)(T:Option Addr)(tc:Nat)(ts:List Int)
 (hG:GOk rn caps (insL hs)) (hE:progE rn caps (insL hs)=0) (hP:PL w gA gc hs) (hT:IL w T tc ts) (htl:ts.length<=1000) :
 Calls Tryz.prog 25 #[progV gA hs.length gc caps rn,.slice T ts.length tc] w (RetEv (insL hs) ts w):=by
 have hgl:=hP.len;have htc1:=hT.le;have htc2:=hT.cap;unfold maxLen at htc2;have hn8:=hG.len;rw[insL_len] at hn8;have EB:=Ext.alloc w (.cells #[.slice gA hs.length gc,.int .i64 caps,.bool rn] 35);have BB:=Blk.new w 35 #[.slice gA hs.length gc,.int .i64 caps,.bool rn];have HP:=lh hP;have HT:=lh hT;have HG:=lh hG;have HE:=lh hE;obtain⟨iI,jI0,jI1,jI2,jI3⟩:=info_parts infoMt;clear hP hT hG hE;unfold progV;go_enter Tryz.func25,Tryz.ntmps25
 go_upto_region 1 with fail
 obtain⟨gq,hgq⟩:∃q,q=w.heap.size:=⟨_,rfl⟩
 rw[<-hgq] at BB ⊢;clear hgq;generalize w.alloc (.cells #[.slice gA hs.length gc,.int .i64 caps,.bool rn] 35)=wa at *;have q0:wa.cell? ⟨gq,0,none⟩=some (.slice gA hs.length gc):=BB.cell 0;have q1:wa.cell? ⟨gq,1,none⟩=some (.int .i64 caps):=BB.cell 1;have q2:wa.cell? ⟨gq,2,none⟩=some (.bool rn):=BB.cell 2;have HST:=lh (pstart_any wa gA gc hs caps rn T tc ts (HP.out.ext EB) HE.out hn8.2 om);unfold progV at HST;have XA:=lh EB;clear EB BB
 go_upto_region 5 with(go_at_call 74;refine HST.out.mono ?_;rintro e w2 ⟨gm,gM,rfl,x2,bm,bM,hgM⟩)
 have X2:=lh (XA.out.trans x2);have HBM:=lh bm;have HMM:Hid (∃ms:List Int,ms.length=hs.length/\Blk w2 gM 3 (iInts ms)):=lh ⟨_,by simp,bM⟩;have HGM:Hid (w.heap.size<=gM):=lh (Nat.le_trans XA.out.size hgM);clear q0 q1 q2 HST bm bM hgM x2
 go_upto_region 6 with fail
 go_loopw [8,24] (fun v8 v24 wr=>∃(k:Nat) (A:Option Addr) (c:Nat) (ms:List Mt),v8=.slice A ms.length c/\v24=.int .i64 k/\k<=ts.length+1/\Hid (ms.map Mt.se=evP (insL hs) ts k)/\Hid (OwnS wr w.heap.size 56 3 A ms.length c (flatMt ms))/\Hid (Ext w wr)/\
  Hid (Blk wr gm 258 #[.slice gA hs.length gc,.int .i64 caps,.bool rn,.slice T ts.length tc,.slice (some ⟨gM,0,none⟩) hs.length hs.length])/\Hid (∃ms:List Int,ms.length=hs.length/\Blk wr gM 3 (iInts ms))) (fun _ v _=>ts.length+1-(intOf v).toNat)
 case atStart=>exact⟨0,none,0,[],rfl,rfl,om,lh rfl,lh (OwnS.nil _ _ _ _),X2,HBM,HMM⟩
 case round=>
  clear HBM HMM X2;obtain⟨k,A,c,ms,rfl,rfl,hk,HEV,HOW,XR,HBM,HMM⟩:=hrel;by_cases hlt:k<=ts.length
  ·have hltI:(k:Int)<(ts.length:Int)+1:=om;have HFI:=lh (pfirst_any w wr gm gM gA gc hs caps rn T tc ts k HG.out HP.out XR.out HT.out HBM.out HMM.out HGM.out hlt om);obtain⟨R,hR⟩:∃R,R=pkAt (insL hs) ts k:=⟨_,rfl⟩;have HR:=lh hR;have hR':pkR (insL hs) (ts.drop k) k (stateG (insL hs) [0]) (false,0)=R:=hR.symm;rw[hR'] at HFI;clear hR hR';have hml:ms.length<=k:=by
    have h1:=evP_len (insL hs) ts k
    rw[<-HEV.out,List.length_map] at h1;exact h1
   go_upto_region 9 with(go_at_call 75;refine HFI.out.mono ?_;rintro e w5 ⟨st,SA,sn,sc,rfl,x5,hst,bm5,bM5,k5⟩)
   have BS:=Blk.new w5 56 #[.int .i64 st,.int .i64 R.2,.slice SA sn sc];have ES:=Ext.alloc w5 (.cells #[.int .i64 st,.int .i64 R.2,.slice SA sn sc] 56);have HSTT:=lh hst;have HOW5:Hid (OwnS w5 w.heap.size 56 3 A ms.length c (flatMt ms)):=lh (OwnS.kp HOW.out k5 (fun b h1 h2=>by
    have e:b=gM:=h2;obtain⟨ms',_,hM'⟩:=HMM.out;exact own_blk HOW.out hM' de (by rw[h1,e])))
   have HX6:=lh (x5.trans ES);have HBM6:=lh (bm5.ext ES);have HMM6:Hid (∃ms:List Int,ms.length=hs.length/\Blk (w5.alloc (.cells #[.int .i64 st,.int .i64 R.2,.slice SA sn sc] 56)) gM 3 (iInts ms)):=lh (by
    obtain⟨ms,h1,h2⟩:=bM5;exact⟨ms,h1,h2.ext ES⟩)
   have HOW6:=lh (OwnS.ext HOW5.out ES);clear HFI HOW HOW5 HBM HMM XR x5 hst bm5 bM5 k5;obtain⟨gx,hgx⟩:∃g,g=w5.heap.size:=⟨_,rfl⟩
   rw[<-hgx] at BS ⊢;clear hgx;generalize w5.alloc (.cells #[.int .i64 st,.int .i64 R.2,.slice SA sn sc] 56)=w6 at *;obtain⟨y0,y1,y2,_⟩:=BS.c3;obtain⟨r,e1⟩:=R
   cases r with
   | false=>
    have HN:=lh (evP_no (G:=insL hs) (ts:=ts) (k:=k) (by rw[<-HR.out]));clear y0 y1 y2 BS ES
    go_wp2_with fail
    go_roundw
    case rel=>exact⟨k+1,A,c,ms,rfl,by go_num,om,lh (by rw[HN.out];exact HEV.out),HOW6,HX6,HBM6,HMM6⟩
    case measure=>simp[intOf];omega
   | true=>
    have HN:=lh (evP_yes (G:=insL hs) (ts:=ts) (k:=k) (by rw[<-HR.out]));have BI:=lh (Blk.new w6 56 #[.int .i64 st,.int .i64 e1,.slice SA sn sc]);have EI:=Ext.alloc w6 (.cells #[.int .i64 st,.int .i64 e1,.slice SA sn sc] 56);have HEI:=lh EI;clear ES EI
    go_upto_region 11 with(at_builtin;refine wpList_app _ rfl _ _ _ rfl w.heap.size 56 iI _ 3 40 Tryz.underlying51 jI0 jI1 jI2 jI3 rfl om A ms.length c (flatMt ms) rfl (OwnS.ext HOW6.out HEI.out) _ 1 1 [.int .i64 st,.int .i64 e1,.slice SA sn sc] rfl rfl (blk_cells BI.out) (by intro u hu;simp only[List.mem_cons,List.not_mem_nil,or_false] at hu;rcases hu with rfl|rfl|rfl<;>rfl) um om (Nat.le_trans HX6.out.size HEI.out.size) ?_;intro A8 c8 w8 ho8 hg8 hat8)
    have X8:=lh (Ext.app (HX6.out.trans HEI.out) (OwnS.ext HOW6.out HEI.out) hg8);have k8:=KpP.of_grown hg8;have HB8:=lh (k8.blk (HBM6.out.ext HEI.out) (own_blk (OwnS.ext HOW6.out HEI.out) (HBM6.out.ext HEI.out) de));have HM8:Hid (∃ms:List Int,ms.length=hs.length/\Blk w8 gM 3 (iInts ms)):=lh (by
     obtain⟨ms2,h1,h2⟩:=HMM6.out;exact⟨ms2,h1,k8.blk (h2.ext HEI.out) (own_blk (OwnS.ext HOW6.out HEI.out) (h2.ext HEI.out) de)⟩)
    have HO8:Hid (OwnS w8 w.heap.size 56 3 A8 (ms++[(⟨st,e1,SA,sn,sc⟩:Mt)]).length c8 (flatMt (ms++[(⟨st,e1,SA,sn,sc⟩:Mt)]))):=lh (by
     rw[flatMt_app,List.length_append];exact ho8)
    have HE8:Hid ((ms++[(⟨st,e1,SA,sn,sc⟩:Mt)]).map Mt.se=evP (insL hs) ts (k+1)):=lh (by
     rw[HN.out,List.map_append,HEV.out,<-HR.out,HSTT.out rfl];rfl)
    have HL8:Hid ((ms++[(⟨st,e1,SA,sn,sc⟩:Mt)]).length=ms.length+1):=lh si;clear y0 y1 y2 BS ho8 hg8 hat8 k8 HOW6 HX6 HBM6 HMM6 HEI BI;generalize ms++[(⟨st,e1,SA,sn,sc⟩:Mt)]=us at *
    go_wp2_with fail
    go_roundw
    case rel=>exact⟨k+1,A8,c8,us,by rw[HL8.out],by go_num,om,HE8,HO8,X8,HB8,HM8⟩
    case measure=>simp[intOf];omega
  ·obtain rfl:k=ts.length+1:=om;have hltI:¬((ts.length+1:Nat):Int)<(ts.length:Int)+1:=om
   go_wp2_with fail
   exact bodyPost_ret (v:=.tuple #[.slice A ms.length c,.int .i64 0]) (by simp[results,Tryz.results25,go_sem]) rfl ⟨A,c,ms,rfl,HEV.out,HOW.out,XR.out⟩
end
section
open Go.RowKit
theorem SW3z1 {P:Prop} (h:P:=by
 rcases addR_rch G rn f _ _ p h with h|rfl|h
 ·exact .inl h
 ·exact .inr (.inr (.one e1))
 ·exact .inr (.inr (.cons e1 h))):P:=h
theorem addR_rch (G:List Ins)(rn:Bool):∀(f:Nat) (s:List Nat×List Nat) (pc p:Nat),p∈(addR G f s pc).1->p∈s.1\/p=pc\/Rch (sucE G rn) pc p
 | 0,s,pc,p,h=>.inl h
 | f+1,s,pc,p,h=>by
  unfold addR at h
  split at h
  ·exact .inl h
  ·split at h
   ·exact .inl h
   ·rename_i i hi
    split at h
    ·rename_i h2
     have e1:sucE G rn pc i.x.toNat:=⟨i,hi,.inl ⟨h2,.inl rfl⟩⟩;have e2:sucE G rn pc i.y.toNat:=⟨i,hi,.inl ⟨h2,.inr rfl⟩⟩;rcases addR_rch G rn f _ _ p h with h|rfl|h
     ·exact SW3z1
     ·exact .inr (.inr (.one e2))
     ·exact .inr (.inr (.cons e2 h))
    ·split at h
     ·rename_i h3
      have e1:sucE G rn pc i.x.toNat:=⟨i,hi,.inr (.inl ⟨h3,rfl⟩)⟩;exact SW3z1
     ·split at h
      ·rename_i h4
       have e1:sucE G rn pc (pc+1):=⟨i,hi,.inr (.inr (.inl ⟨h4,rfl⟩))⟩;exact SW3z1
      ·rcases List.mem_append.1 h with h|h
       ·exact .inl h
       ·exact .inr (.inl (List.mem_singleton.1 h))
theorem foldR_rch (G:List Ins)(rn:Bool)(N:Nat):∀(r:List Nat) (s:List Nat×List Nat) (p:Nat),p∈(r.foldl (addR G N) s).1->p∈s.1\/∃q∈r,p=q\/Rch (sucE G rn) q p
 | [],s,p,h=>.inl h
 | q::r,s,p,h=>by
  rcases foldR_rch G rn N r _ p h with h|⟨q',hq,h⟩
  ·rcases addR_rch G rn N s q p h with h|h
   ·exact .inl h
   ·exact .inr ⟨q,by simp,h⟩
  ·exact .inr ⟨q',by simp[hq],h⟩
theorem nextG_rch {G:List Ins}{rn:Bool}{l:St}{x:Int}(hx:symV rn x=true){p:Nat}(h:p∈nextG G l x):∃q∈l,Rch (sucE G rn) q p:=by
 rcases foldR_rch G rn _ _ _ p (cutD_sub h) with h|⟨q',hq,h⟩
 ·simp at h
 ·obtain⟨q,hq2,rfl⟩:=List.mem_map.1 hq;obtain⟨hql,hqs⟩:=List.mem_filter.1 hq2;unfold symAt at hqs;have e:sucE G rn q (q+1):=by
   cases hi:G[q]? with
   | none=>rw[hi] at hqs;cases hqs
   | some i=>
    rw[hi] at hqs;simp only[Bool.and_eq_true,decide_eq_true_eq] at hqs;obtain⟨s,hs,h1,h2⟩:=has_iff.1 hqs.2;refine⟨i,hi,.inr (.inr (.inr ⟨hqs.1,⟨s,hs,?_⟩,rfl⟩))⟩
    cases rn with
    | false=>exact .inl rfl
    | true=>
     unfold symV at hx;simp only[if_true,Bool.or_eq_true,decide_eq_true_eq] at hx;rcases hx with hx|hx
     ·exact .inr (.inl om)
     ·exact .inr (.inr om)
  rcases h with rfl|h
  ·exact⟨q,hql,.one e⟩
  ·exact⟨q,hql,.cons e h⟩
theorem fold_rch {G:List Ins}{rn:Bool}:∀(s:List Int) (l:St) (p:Nat),s≠[]->(∀x∈s,symV rn x=true)->p∈s.foldl (nextG G) l->∃q∈l,Rch (sucE G rn) q p
 | [],l,p,h,_,_=>absurd rfl h
 | [x],l,p,_,hv,h=>nextG_rch (hv x si) h
 | x::y::s,l,p,_,hv,h=>by
  obtain⟨q',hq',h1⟩:=fold_rch (y::s) (nextG G l x) p si (fun z hz=>hv z (by simp at hz;simp[hz])) h;obtain⟨q,hq,h2⟩:=nextG_rch (hv x si) hq';exact⟨q,hq,h2.trans h1⟩
theorem dec_no {c:Cd}(hc:CdOk c){l:St}(hd:decL c.ls l=true){s:List Int}(hs:s≠[])(hv:∀x∈s,symV c.rn x=true):doneG (insL c.hs) (s.foldl (nextG (insL c.hs)) l)=false:=by
 cases hdn:doneG (insL c.hs) (s.foldl (nextG (insL c.hs)) l) with
 | false=>rfl
 | true=>
  exfalso
  have hne:s.foldl (nextG (insL c.hs)) l≠[]:=fun e=>by rw[e,doneG_nil] at hdn;cases hdn
  rw[doneG_last hne] at hdn;obtain⟨q,hq,hr⟩:=fold_rch (G:=insL c.hs) (rn:=c.rn) s l _ hs hv (List.getLast_mem hne);have hlead:leadG (insL c.hs) c.rn q=true:=by unfold leadG;exact @decide_eq_true _ (Classical.propDecidable _) ⟨_,hdn,hr⟩
  have hql:q<c.hs.length:=by
   have:∃j,sucE (insL c.hs) c.rn q j:=by cases hr with|one h=>exact⟨_,h⟩|cons h _=>exact⟨_,h⟩
   obtain⟨_,a,ha,_⟩:=this;have:=(List.getElem?_eq_some_iff.1 ha).1
   rwa [insL_len] at this
  have h1:=hc.lead q hql;unfold decL leadAny at hd;have h2:c.ls.getD q false=true:=by rw[List.getD_eq_getElem?_getD,h1,hlead];rfl
  have h3:(l.any fun i=>c.ls.getD i false)=true:=List.any_eq_true.2 ⟨q,hq,h2⟩;rw[h3] at hd;cases hd
theorem fm_congr {α β:Type}{f g:α->Option β}:∀{l:List α},(∀x∈l,f x=g x)->l.filterMap f=l.filterMap g
 | [],_=>rfl
 | a::l,h=>by rw[List.filterMap_cons,List.filterMap_cons,h a si,fm_congr (fun x hx=>h x (by simp[hx]))]
def finE (G:List Ins):List Int->Int->St->Int->Int
 | [],_,_,e=>e
 | x::t,N,l,e=>finE G t (N+1) (nextG G l x) (if doneG G (nextG G l x)=true then N+1 else e)
def finR (G:List Ins)(t:List Int)(N:Int)(i:Itm):Itm:=⟨i.p,i.l,finE G t N i.l i.e⟩
theorem finE_keep {G:List Ins}:∀(t:List Int) (N:Int) (l:St) (e:Int),(∀s,s≠[]->s <+: t->doneG G (s.foldl (nextG G) l)=false)->finE G t N l e=e
 | [],_,_,_,_=>rfl
 | x::t,N,l,e,h=>by
  have h1:doneG G (nextG G l x)=false:=h [x] si si;rw[finE,if_neg (by rw[h1];simp)];exact finE_keep t (N+1) (nextG G l x) e (fun s hs hp=>h (x::s) si (by simpa using hp))
def newsI (G:List Ins):List Int->Int->List (Int×Int)
 | [],_=>[]
 | x::t,N=>resOf [finR G t (N+1) (startI G (N+1))]++newsI G t (N+1)
theorem resOf_fin {G:List Ins}{t:List Int}{N:Int}{I:List Itm}:resOf (I.map (finR G t N))=I.filterMap (fun i=>if 0<=finE G t N i.l i.e then some (i.p,finE G t N i.l i.e) else none):=by
 unfold resOf;rw[List.filterMap_map];rfl
theorem runI_all {G:List Ins}{D:St->Bool}:∀(t:List Int) (N:Int) (I:List Itm),(∀l,D l=true->∀s,s≠[]->s <:+: t->doneG G (s.foldl (nextG G) l)=false)->
 ((runI G D t N I).2++resOf (runI G D t N I).1).Perm (resOf (I.map (finR G t N))++newsI G t N)
 | [],N,I,_=>by
  have e:I.map (finR G [] N)=I:=by
   conv=>rhs;rw[<-List.map_id I]
   exact List.map_congr_left (fun i _=>rfl)
  simp[runI,newsI,e]
 | x::t,N,I,hD=>by
  have hD':∀l,D l=true->∀s,s≠[]->s <:+: t->doneG G (s.foldl (nextG G) l)=false:=fun l hl s hs hi=>hD l hl s hs (hi.trans (List.suffix_cons x t).isInfix);have ih:=runI_all t (N+1) (openI D (stepI G N x I)) hD';have e1:resI D (stepI G N x I)=resOf ((shutI D (stepI G N x I)).map (finR G t (N+1))):=by
   unfold resI;rw[resOf_fin];unfold resOf;refine fm_congr (fun i hi=>?_);have hdi:D i.l=true:=by
    unfold shutI at hi;exact(List.mem_filter.1 hi).2
   rw[finE_keep t (N+1) i.l i.e (fun s hs hp=>hD' i.l hdi s hs hp.isInfix)]
  have e2:(shutI D (stepI G N x I)++openI D (stepI G N x I)).Perm (stepI G N x I):=by
   unfold shutI openI;exact List.filter_append_perm (fun i:Itm=>D i.l) _
  have e3:resOf ((stepI G N x I).map (finR G t (N+1)))=resOf (I.map (finR G (x::t) N))++resOf [finR G t (N+1) (startI G (N+1))]:=by
   unfold stepI;rw[List.map_append,resOf_append,List.map_map]
   congr 1
   rw[resOf_fin];unfold resOf;rw[List.filterMap_map]
   rfl
  have e4:((runI G D (x::t) N I).2++resOf (runI G D (x::t) N I).1)=resI D (stepI G N x I)++((runI G D t (N+1) (openI D (stepI G N x I))).2++resOf (runI G D t (N+1) (openI D (stepI G N x I))).1):=by
   simp only[runI,List.append_assoc]
  have e5:resOf (I.map (finR G (x::t) N))++(resOf [finR G t (N+1) (startI G (N+1))]++newsI G t (N+1))=resOf ((stepI G N x I).map (finR G t (N+1)))++newsI G t (N+1):=by rw[<-List.append_assoc,<-e3]
  rw[e4,e1,newsI,e5];refine(ih.append_left _).trans ?_
  rw[<-List.append_assoc,<-resOf_append,<-List.map_append];exact(resOf_perm (e2.map _)).append_right _
theorem pk_fin {G:List Ins}:∀(t:List Int) (k:Nat) (s:St) (b:Bool) (v:Int),finE G t k s (if doneG G s=true then(k:Int) else if b=true then v else -1)=(if(pkR G t k s (b,v)).1=true then(pkR G t k s (b,v)).2 else -1)
 | [],k,s,b,v=>by
  rw[pkR_stop (.inr rfl),finE]
  cases b<;>cases doneG G s<;>rfl
 | x::t,k,s,b,v=>by
  by_cases hs:s=[]
  ·subst hs;rw[pkR_stop (.inl rfl),finE_keep]
   ·cases b<;>simp[doneG_nil]
   ·intro u _ _;rw[fold_nil,doneG_nil]
  ·rw[pkR_go hs,finE];have ih:=pk_fin (G:=G) t (k+1) (nextG G s x) (b || doneG G s) (if doneG G s=true then(k:Int) else v)
   rw[<-ih];have e:((k+1:Nat):Int)=(k:Int)+1:=om;rw[e]
   congr 1
   by_cases hn:doneG G (nextG G s x)=true
   ·rw[if_pos hn,if_pos hn]
   ·rw[if_neg hn,if_neg hn]
    cases b<;>cases doneG G s<;>rfl
theorem pk_nonneg {G:List Ins}:∀(t:List Int) (k:Nat) (s:St) (b:Bool) (v:Int),(b=true->0<=v)->(pkR G t k s (b,v)).1=true->0<=(pkR G t k s (b,v)).2
 | [],k,s,b,v,hb,h=>by
  rw[pkR_stop (.inr rfl)] at h ⊢
  cases hd:doneG G s with
  | true=>simp
  | false=>simp[hd] at h ⊢;exact hb h
 | x::t,k,s,b,v,hb,h=>by
  by_cases hs:s=[]
  ·rw[pkR_stop (.inl hs)] at h ⊢
   cases hd:doneG G s with
   | true=>simp
   | false=>simp[hd] at h ⊢;exact hb h
  ·rw[pkR_go hs] at h ⊢;refine pk_nonneg t (k+1) _ _ _ (fun hb2=>?_) h
   cases hd:doneG G s with
   | true=>simp
   | false=>simp[hd] at hb2 ⊢;exact hb hb2
theorem one_fin (G:List Ins)(t:List Int)(k:Nat):resOf [finR G t (k:Int) (startI G (k:Int))]=(if(pkR G t k (stateG G [0]) (false,0)).1=true then[((k:Int),(pkR G t k (stateG G [0]) (false,0)).2)] else[]):=by
 have h:=pk_fin (G:=G) t k (stateG G [0]) false 0;have e:finE G t (k:Int) (startI G (k:Int)).l (startI G (k:Int)).e=(if(pkR G t k (stateG G [0]) (false,0)).1=true then(pkR G t k (stateG G [0]) (false,0)).2 else -1):=by
  rw[<-h];unfold startI
  simp
 unfold resOf finR;simp only[List.filterMap_cons,List.filterMap_nil,e];by_cases hb:(pkR G t k (stateG G [0]) (false,0)).1=true
 ·have h0:=pk_nonneg t k (stateG G [0]) false 0 si hb;simp[hb,h0,startI]
 ·simp[hb]
theorem evP_cons {G:List Ins}{ts:List Int}:∀(m k:Nat),(List.range' k m).filterMap (fun i=>if(pkAt G ts i).1=true then some ((i:Int),(pkAt G ts i).2) else none)=(List.range' k m).flatMap (fun i=>if(pkAt G ts i).1=true then[((i:Int),(pkAt G ts i).2)] else[])
 | 0,_=>rfl
 | m+1,k=>by
  rw[List.range'_succ,List.filterMap_cons,List.flatMap_cons,evP_cons m (k+1)];by_cases h:(pkAt G ts k).1=true<;>simp[h]
theorem news_ev {G:List Ins}{ts:List Int}:∀(m k:Nat),k+m=ts.length->newsI G (ts.drop k) (k:Int)=(List.range' (k+1) m).flatMap (fun i=>if(pkAt G ts i).1=true then[((i:Int),(pkAt G ts i).2)] else[])
 | 0,k,h=>by rw[List.drop_eq_nil_of_le om];rfl
 | m+1,k,h=>by
  rw[List.drop_eq_getElem_cons om,newsI,List.range'_succ,List.flatMap_cons];have e:(k:Int)+1=((k+1:Nat):Int):=om;rw[e,one_fin,news_ev m (k+1) om]
  rfl
theorem whole_law {c:Cd}(hc:CdOk c)(ts:List Int)(hv:∀x∈ts,symV c.rn x=true) :
 ((feedI (insL c.hs) (decL c.ls) ts 0 [] false).2++resOf (feedI (insL c.hs) (decL c.ls) ts 0 [] false).1).Perm (evP (insL c.hs) ts (ts.length+1)):=by
 have hD:∀l,decL c.ls l=true->∀s,s≠[]->s <:+: ts->doneG (insL c.hs) (s.foldl (nextG (insL c.hs)) l)=false:=fun l hl s hs hi=>dec_no hc hl hs (fun x hx=>hv x (hi.subset hx));have h:=runI_all (G:=insL c.hs) (D:=decL c.ls) ts 0 (openI (decL c.ls) [startI (insL c.hs) 0]) hD;have e1:resI (decL c.ls) [startI (insL c.hs) 0]=resOf ((shutI (decL c.ls) [startI (insL c.hs) 0]).map (finR (insL c.hs) ts 0)):=by
  unfold resI;rw[resOf_fin];unfold resOf;refine fm_congr (fun i hi=>?_);have hdi:decL c.ls i.l=true:=by
   unfold shutI at hi;exact(List.mem_filter.1 hi).2
  rw[finE_keep ts 0 i.l i.e (fun s hs hp=>hD i.l hdi s hs hp.isInfix)]
 have e2:(shutI (decL c.ls) [startI (insL c.hs) 0]++openI (decL c.ls) [startI (insL c.hs) 0]).Perm [startI (insL c.hs) 0]:=by
  unfold shutI openI;exact List.filter_append_perm (fun i:Itm=>decL c.ls i.l) _
 have e3:evP (insL c.hs) ts (ts.length+1)=resOf [finR (insL c.hs) ts 0 (startI (insL c.hs) 0)]++newsI (insL c.hs) ts 0:=by
  have h0:=one_fin (insL c.hs) ts 0;have h1:=news_ev (G:=insL c.hs) (ts:=ts) ts.length 0 om;rw[List.drop_zero] at h1;have h2:=evP_cons (G:=insL c.hs) (ts:=ts) (ts.length+1) 0;unfold evP;rw[List.range_eq_range',h2,List.range'_succ,List.flatMap_cons]
  show _=resOf [finR (insL c.hs) ts ((0:Nat):Int) (startI (insL c.hs) ((0:Nat):Int))]++newsI (insL c.hs) ts ((0:Nat):Int)
  rw[h0,h1]
  rfl
 unfold feedI bgIt;simp only[Bool.false_eq_true,if_false];rw[List.append_assoc,e3];refine(h.append_left _).trans ?_;rw[e1,<-List.append_assoc,<-resOf_append,<-List.map_append];exact(resOf_perm (e2.map _)).append_right _
end
section
open Go.RowKit
attribute [local go_sem ↓] Go.wp_at_zero Go.wp_at_succ
theorem own_base0 {w:World}{b e size n c:Nat}{A:Option Addr}{xs:List Value}(h:OwnS w b e size A n c xs):OwnS w 0 e size A n c xs:=by
 have hl:=OwnS.len h;rcases OwnS.form h with⟨rfl,rfl,rfl,rfl⟩|⟨g,cur,rfl,hb,hh,h1,h2,h3,h4⟩
 ·exact OwnS.nil _ _ _ _
 ·have:=OwnS.of_blk (base:=0) (size:=size) (n:=n) (c:=c) hh (Nat.zero_le _) h3 h1 h2
  rwa [h4] at this
def SLQ (A:Option Addr)(c:Nat)(a:List Sp)(w:World)(A1:Option Addr)(c1:Nat)(l:List Sp):Prop:=SL w A1 c1 l/\((A1=A/\c1=c/\l=a)\/OwnPr w 0 A1 c1 l)
def RetMg2 (A0:Option Addr)(c0:Nat)(a b:List Sp)(w:World)(e:Ending)(w':World):Prop:=∃(R:List Sp) (A:Option Addr) (c:Nat),e=.returned (.slice A R.length c)/\SL w' A c R/\((A=A0/\c=c0/\R=a)\/OwnPr w' 0 A c R)/\R.Perm (a++b)/\R.Pairwise (fun s t=>s.1<=t.1)/\Ext w w'
theorem SW5z3 {P:Prop} (h:P:=by
 rw[HY.out,<-List.append_assoc];exact h2.trans (HL.out.2.1.append_right _)):P:=h
theorem SW5z1 {P:Prop} (h:P:=by
 have HNX:=lh (fun(A6:Option Addr) (c6:Nat) (w6:World) (ho6:OwnPr w6 w3.heap.size A6 c6 ([]++[(y1,y2)]++([]:List Sp))) (X6:Ext w3 w6)=>
  show Hid (([]++[(y1,y2)]++([]:List Sp):List Sp).length=a.length+(i+1))/\Hid (SLQ A c a w6 A6 c6 ([]++[(y1,y2)]++([]:List Sp))/\([]++[(y1,y2)]++([]:List Sp)).Perm (a++b.take (i+1))/\([]++[(y1,y2)]++([]:List Sp)).Pairwise (fun(s t:Sp)=>s.1<=t.1))/\Ext w w6 by
  obtain⟨h1,h2⟩:=ins_sorted (y:=(y1,y2)) (k:=0) HL.out.2.2 HM.out (.inl rfl);have h3:([]++[(y1,y2)]++([]:List Sp)).Perm (a++b.take (i+1)):=by
   exact SW5z3
  refine⟨lh (by have:=h2.length_eq;have h9:=hll.out;simp only[List.length_append,List.length_nil,List.length_cons,List.take_zero,List.drop_zero] at this h9 ⊢;omega),lh ⟨⟨SL.of_ownT ho6 (fun s hs=>HR.out s ?_),.inr (own_base0 ho6)⟩,h3,h1⟩,(x1.trans X2.out).trans X6⟩;have h4:=h3.mem_iff.1 hs;rcases List.mem_append.1 h4 with h5|h5
  ·exact List.mem_append_left _ h5
  ·exact List.mem_append_right _ (List.mem_of_mem_take h5))
 have y0:=X2.out.cell o0;have y1':=X2.out.cell o1;clear o0 o1 x1 X2
 go_upto_region 7 with fail
 go_upto_region 8 with fail
 go_upto_region 9 with(at_builtin;refine wpList_appQ rfl _ _ _ rfl Tryz.underlying37 w3.heap.size (Nat.le_refl _) none 0 0 [] rfl rfl (OwnS.nil _ _ _ _) _ _ 0 [] rfl rfl (fun h=>absurd rfl h) si 0 rfl ?_;intro A4 c4 w4 ho4 hg4)
 have X4:=lh (Ext.app (Ext.rfl' w3) (OwnS.nil _ _ _ _:OwnS w3 w3.heap.size 54 2 none 0 0 []) hg4);have HO4:=lh ho4;clear ho4 hg4;have BY:=Blk.new w4 54 #[.int .i64 y1,.int .i64 y2];have EY:=Ext.alloc w4 (.cells #[.int .i64 y1,.int .i64 y2] 54);have z0:=X4.out.cell y0;have z1':=X4.out.cell y1'
 go_upto_region 10 with(at_builtin;refine wpList_appQ rfl _ _ _ rfl Tryz.underlying37 w3.heap.size (X4.out.trans EY).size A4 c4 0 _ rfl rfl (OwnS.ext HO4.out EY) (some ⟨w4.heap.size,0,none⟩) 1 1 [(y1,y2)] rfl rfl (blk_cells BY) si 1 rfl ?_;intro A5 c5 w5 ho5 hg5)
 have X5:=lh (Ext.app (X4.out.trans EY) (OwnS.ext HO4.out EY) hg5);have HO5:=lh ho5;clear ho5 hg5 BY EY z0 z1' y0 y1'
 go_upto_region 3 with(at_builtin;refine wpList_appQ rfl _ _ _ rfl Tryz.underlying37 w3.heap.size X5.out.size A5 c5 1 _ rfl rfl HO5.out _ _ 0 [] rfl rfl (fun h=>absurd rfl h) (by simp<;>omega) (0+1) om ?_;intro A6 c6 w6 ho6 hg6)
 obtain⟨n1,n2,n3⟩:=HNX.out A6 c6 w6 ho6 (Ext.app X5.out HO5.out hg6);clear ho6 hg6 HNX HO5 X5
 go_wp2_with fail
 go_roundw
 case rel=>exact⟨i+1,A6,c6,[]++[(y1,y2)]++([]:List Sp),by simp[Nat.add_comm],by go_num,om,n1,n2,n3⟩
 case measure=>simp[intOf];omega):P:=h
theorem SW5z2 {P:Prop} (h:P:=by
 go_wp2_with fail
 go_roundw
 case rel=>exact⟨i+1,A6,c6,l.take K++[(y1,y2)]++l.drop K,by rw[HLD.out],by go_num,om,n1,n2,n3⟩
 case measure=>simp[intOf];omega):P:=h
theorem merged2_any (a b:List Sp)(A B:Option Addr)(c d:Nat)(w:World)(ha:SL w A c a)(hb:SL w B d b)(hs:a.Pairwise (fun s t=>s.1<=t.1))(hla:a.length<=1000)(hlb:b.length<=1000)(hr:∀s∈a++b,S64 s) :
 Calls Tryz.prog 21 #[.slice A a.length c,.slice B b.length d] w (RetMg2 A c a b w):=by
 have hca:=ha.len;have hcb:=hb.len;have HA:=lh ha;have HB:=lh hb;have HS:=lh hs;have HR:=lh hr;clear ha hb hs hr;go_enter Tryz.func21,Tryz.ntmps21
 go_upto_region 2 with fail
 go_loopw [0,5] (fun v0 v5 wr=>∃(i:Nat) (A1:Option Addr) (c1:Nat) (l:List Sp),v0=.slice A1 l.length c1/\v5=.int .i64 i/\i<=b.length/\Hid (l.length=a.length+i)/\Hid (SLQ A c a wr A1 c1 l/\l.Perm (a++b.take i)/\l.Pairwise (fun s t=>s.1<=t.1))/\Ext w wr) (fun _ v5 _=>b.length-(intOf v5).toNat)
 case atStart=>exact⟨0,A,c,a,rfl,rfl,om,lh om,lh ⟨⟨HA.out,.inl ⟨rfl,rfl,rfl⟩⟩,by simp,HS.out⟩,Ext.rfl' _⟩
 case round=>
  obtain⟨i,A1,c1,l,rfl,rfl,hi,hll,HL,x1⟩:=hrel;have hc1:=HL.out.1.1.len;have hl2k:l.length<=2000:=by have:=hll.out;omega
  have hl2k:l.length<=2000:=by have:=hll.out;omega
  have hl2k:l.length<=2000:=by have:=hll.out;omega
  have hl2k:l.length<=2000:=by have:=hll.out;omega
  have hl2k:l.length<=2000:=by have:=hll.out;omega
  have hl2k:l.length<=2000:=by have:=hll.out;omega
  obtain⟨w1,hw1⟩:∃w1,w1=wr:=⟨_,rfl⟩;by_cases hlt:i<b.length
  ·have hiI:(i:Int)<b.length:=om;obtain⟨ib,io,hBA,o0,o1⟩:=(HB.out.ext x1).get hlt;have hym:b[i]∈b:=List.getElem_mem hlt;have HY:Hid (b.take (i+1)=b.take i++[b[i]]):=lh (List.take_succ_eq_append_getElem hlt);generalize b[i]=y at *;obtain⟨y1,y2⟩:=y
   simp only at o0 o1
   subst hBA
   go_upto_region 5 with fail
   go_loopw [6] (fun v6 wq=>∃m:Nat,v6=.int .i64 m/\m<=l.length/\Hid (∀j (h:j<l.length),m<=j->y1<l[j].1)/\Ext wr wq) (fun v6 _=>(intOf v6).toNat)
   case atStart=>exact⟨l.length,rfl,om,lh (fun j h h2=>om),Ext.rfl' _⟩
   case round=>
    obtain⟨m,rfl,hm,HM,x2⟩:=hrel;have q0:=x2.cell o0;have k0:=kc0 q0;by_cases hm0:m=0
    ·subst hm0;have HEX:=lh (show(0:Nat)=0\/∃h:0-1<l.length,l[0-1].1<=(y1,y2).1 from .inl rfl)
     go_wp2_with fail
     refine Xr.start [] kr ?_;refine Xtk 0 ?_
     iterate 2(refine Xtn ?_)
     iterate 12(first|refine Xtn ?_|refine Xsn ?_)
     refine Xtn ?_;refine Xdn fun w3 hE3 hK3=>?_;have X2:=lh (x2.trans hK3.nil);clear k0 q0 hE3 hK3 x2;by_cases hl0:l=[]
     ·subst hl0;by_cases hc0:c1=0
      ·subst hc0;exact SW5z1
      ·have hc0I:¬(c1:Int)=0:=om;exact SW5z1
     ·obtain⟨jb,jo,hA1,_⟩:=HL.out.1.1.at_ hl0;have hlp:0<l.length:=List.length_pos_iff.2 hl0;have hc0I:¬(c1:Int)=0:=om;have hc0:¬c1=0:=om;subst hA1;have HNX:=lh (fun(A6:Option Addr) (c6:Nat) (w6:World) (ho6:OwnPr w6 w3.heap.size A6 c6 ([]++[(y1,y2)]++l)) (X6:Ext w3 w6)=>
       show Hid (([]++[(y1,y2)]++l:List Sp).length=a.length+(i+1))/\Hid (SLQ A c a w6 A6 c6 ([]++[(y1,y2)]++l)/\([]++[(y1,y2)]++l).Perm (a++b.take (i+1))/\([]++[(y1,y2)]++l).Pairwise (fun(s t:Sp)=>s.1<=t.1))/\Ext w w6 by
       obtain⟨h1,h2⟩:=ins_sorted (y:=(y1,y2)) (k:=0) HL.out.2.2 HM.out (.inl rfl);have h3:([]++[(y1,y2)]++l).Perm (a++b.take (i+1)):=by
        exact SW5z3
       refine⟨lh (by have:=h2.length_eq;have h9:=hll.out;simp only[List.length_append,List.length_nil,List.length_cons,List.take_zero,List.drop_zero] at this h9 ⊢;omega),lh ⟨⟨SL.of_ownT ho6 (fun s hs=>HR.out s ?_),.inr (own_base0 ho6)⟩,h3,h1⟩,(x1.trans X2.out).trans X6⟩;have h4:=h3.mem_iff.1 hs;rcases List.mem_append.1 h4 with h5|h5
       ·exact List.mem_append_left _ h5
       ·exact List.mem_append_right _ (List.mem_of_mem_take h5))
      have y0:=X2.out.cell o0;have y1':=X2.out.cell o1;have HCL:=lh (SL.cells (HL.out.1.1.ext X2.out));clear o0 o1 x1 X2
      go_upto_region 7 with fail
      go_upto_region 8 with fail
      go_upto_region 9 with(at_builtin;refine wpList_appQ rfl _ _ _ rfl Tryz.underlying37 w3.heap.size (Nat.le_refl _) none 0 0 [] rfl rfl (OwnS.nil _ _ _ _) _ _ 0 [] rfl rfl (fun h=>absurd rfl h) si 0 rfl ?_;intro A4 c4 w4 ho4 hg4)
      have X4:=lh (Ext.app (Ext.rfl' w3) (OwnS.nil _ _ _ _:OwnS w3 w3.heap.size 54 2 none 0 0 []) hg4);have HO4:=lh ho4;clear ho4 hg4;have BY:=Blk.new w4 54 #[.int .i64 y1,.int .i64 y2];have EY:=Ext.alloc w4 (.cells #[.int .i64 y1,.int .i64 y2] 54);have z0:=X4.out.cell y0;have z1':=X4.out.cell y1'
      go_upto_region 10 with(at_builtin;refine wpList_appQ rfl _ _ _ rfl Tryz.underlying37 w3.heap.size (X4.out.trans EY).size A4 c4 0 _ rfl rfl (OwnS.ext HO4.out EY) (some ⟨w4.heap.size,0,none⟩) 1 1 [(y1,y2)] rfl rfl (blk_cells BY) si 1 rfl ?_;intro A5 c5 w5 ho5 hg5)
      have X5:=lh (Ext.app (X4.out.trans EY) (OwnS.ext HO4.out EY) hg5);have HO5:=lh ho5;clear ho5 hg5 BY EY z0 z1' y0 y1';have HCL5:=lh (CellsAt.ext HCL.out X5.out)
      go_upto_region 3 with(at_builtin;refine wpList_appQ rfl _ _ _ rfl Tryz.underlying37 w3.heap.size X5.out.size A5 c5 1 _ rfl rfl HO5.out (some ⟨jb,jo,none⟩) _ l.length l rfl rfl HCL5.out (by simp<;>omega) (l.length+1) om ?_;intro A6 c6 w6 ho6 hg6)
      obtain⟨n1,n2,n3⟩:=HNX.out A6 c6 w6 ho6 (Ext.app X5.out HO5.out hg6);clear ho6 hg6 HNX HO5 X5
      go_wp2_with fail
      go_roundw
      case rel=>exact⟨i+1,A6,c6,[]++[(y1,y2)]++l,by simp[Nat.add_comm],by go_num,om,n1,n2,n3⟩
      case measure=>simp[intOf];omega
    ·obtain⟨m',rfl⟩:∃k,m=k+1:=⟨m-1,om⟩;have hml:m'<l.length:=om;obtain⟨jb,jo,hA1,p0,p1⟩:=(HL.out.1.1.ext x2).get hml;have hne:((m'+1:Nat):Int)=(m':Int)+1:=om;subst hA1;have ewp:IntKind.i64.wrap (m':Int)=m':=wj;have k1:=kc0 p0;have HLM:=fun(h:l[m'].1<=y1)=>lh (show m'+1=0\/∃h:m'+1-1<l.length,l[m'+1-1].1<=(y1,y2).1 from .inr ⟨hml,h⟩);have HLG:=fun(h:y1<l[m'].1)=>lh (show ∀j (h:j<l.length),m'<=j->y1<l[j].1 from fun j hj hmj=>by
      rcases Nat.lt_or_ge m' j with h1|h1
      ·exact HM.out j hj om
      ·have:j=m':=om;subst this;exact h)
     generalize l[m']=z at *;obtain⟨z1,z2⟩:=z
     simp only at p0 p1 k1 HLM HLG
     by_cases hgt:y1<z1
     ·have HG:=HLG hgt;clear HLG HLM
      go_wp2_with fail
      refine Xr.start [] kr ?_;refine Xtk 0 ?_
      iterate 2(refine Xtn ?_)
      iterate 12(first|refine Xtn ?_|refine Xsn ?_)
      refine Xtn ?_;refine Xdn fun w3 hE3 hK3=>?_;have X3:=x2.trans hK3.nil;clear k0 k1 q0 p0 p1 hE3 hK3 x2
      go_wp2_with fail
      go_roundw
      case rel=>exact⟨m',by go_num,om,HG,X3⟩
      case measure=>simp[intOf]
     ·have HEX:=HLM om;clear HLG HLM
      go_wp2_with fail
      refine Xr.start [] kr ?_;refine Xtk 0 ?_
      iterate 2(refine Xtn ?_)
      iterate 12(first|refine Xtn ?_|refine Xsn ?_)
      refine Xtn ?_;refine Xdn fun w3 hE3 hK3=>?_;have X2:=lh (x2.trans hK3.nil);clear k0 k1 q0 p0 p1 hE3 hK3 x2;obtain⟨K,hK⟩:∃K,K=m'+1:=⟨_,rfl⟩;have hKc:(m':Int)+1=(K:Int):=om
      rw[<-hK] at HM HEX hm hne;rw[hKc];have hKI:(K:Int)<=(c1:Int):=om;have hKl:(K:Int)<=(l.length:Int):=om;have HLL:=lh (show(l.take K).length=K by rw[List.length_take];omega);have HL3:=lh (HL.out.1.1.ext X2.out);have XW3:=lh (x1.trans X2.out);have HTK:=lh (HL3.out.cellsTake K);have y0:=X2.out.cell o0;have y1':=X2.out.cell o1;clear hK hne ewp x1 X2 o0 o1 hKc
      go_upto_region 8 with fail
      go_upto_region 9 with(at_builtin;refine wpList_appQ rfl _ _ _ rfl Tryz.underlying37 w3.heap.size (Nat.le_refl _) none 0 0 [] rfl rfl (OwnS.nil _ _ _ _) (some ⟨jb,jo,none⟩) c1 K (l.take K) rfl HLL.out.symm HTK.out (by simp;omega) K om ?_;intro A4 c4 w4 ho4 hg4)
      have X4:=lh (Ext.app (Ext.rfl' w3) (OwnS.nil _ _ _ _:OwnS w3 w3.heap.size 54 2 none 0 0 []) hg4);have HO4:=lh ho4;clear ho4 hg4 HTK;have BY:=Blk.new w4 54 #[.int .i64 y1,.int .i64 y2];have EY:=Ext.alloc w4 (.cells #[.int .i64 y1,.int .i64 y2] 54);have z0:=X4.out.cell y0;have z1':=X4.out.cell y1'
      go_upto_region 10 with(at_builtin;refine wpList_appQ rfl _ _ _ rfl Tryz.underlying37 w3.heap.size (X4.out.trans EY).size A4 c4 K _ rfl HLL.out.symm (OwnS.ext HO4.out EY) (some ⟨w4.heap.size,0,none⟩) 1 1 [(y1,y2)] rfl rfl (blk_cells BY) (by rw[HLL.out];simp;omega) (K+1) rfl ?_;intro A5 c5 w5 ho5 hg5)
      have X5:=lh (Ext.app (X4.out.trans EY) (OwnS.ext HO4.out EY) hg5);have HO5:=lh ho5;clear ho5 hg5 BY EY z0 z1' y0 y1';have HNX:=lh (fun(A6:Option Addr) (c6:Nat) (w6:World) (ho6:OwnPr w6 w3.heap.size A6 c6 (l.take K++[(y1,y2)]++l.drop K)) (X6:Ext w3 w6)=>
       show Hid ((l.take K++[(y1,y2)]++l.drop K).length=a.length+(i+1))/\Hid (SLQ A c a w6 A6 c6 (l.take K++[(y1,y2)]++l.drop K)/\(l.take K++[(y1,y2)]++l.drop K).Perm (a++b.take (i+1))/\(l.take K++[(y1,y2)]++l.drop K).Pairwise (fun s t=>s.1<=t.1))/\Ext w w6 by
       obtain⟨h1,h2⟩:=ins_sorted (y:=(y1,y2)) (k:=K) HL.out.2.2 HM.out HEX.out;have h3:(l.take K++[(y1,y2)]++l.drop K).Perm (a++b.take (i+1)):=by
        exact SW5z3
       refine⟨lh (by rw[h2.length_eq,List.length_append,hll.out];rfl),lh ⟨⟨SL.of_ownT ho6 (fun s hs=>HR.out s ?_),.inr (own_base0 ho6)⟩,h3,h1⟩,XW3.out.trans X6⟩;have h4:=h3.mem_iff.1 hs;rcases List.mem_append.1 h4 with h5|h5
       ·exact List.mem_append_left _ h5
       ·exact List.mem_append_right _ (List.mem_of_mem_take h5))
      have HLR:=lh (show(l.take K++[(y1,y2)]).length=K+1 by rw[List.length_append,HLL.out];rfl);have HLD:=lh (show(l.take K++[(y1,y2)]++l.drop K).length=l.length+1 by
       rw[List.length_append,List.length_append,List.length_drop,HLL.out,List.length_singleton];omega)
      have HDD:=lh (show l.length-K=(l.drop K).length by rw[List.length_drop]);have HCD:=lh ((HL3.out.ext X5.out).cellsDrop K);have HBB:=lh (show(l.take K++[(y1,y2)]).length+(l.drop K).length<=1000000 by rw[HLR.out,<-HDD.out];omega);by_cases hce:c1=K
      ·have hceI:(c1:Int)=(K:Int):=om;have hdz:l.drop K=[]:=List.drop_of_length_le om;have HDZ:=lh (show CellsAt w5 (some ⟨jb,jo,none⟩) (flatS (l.drop K)) by rw[hdz];intro h;exact absurd rfl h);clear HCD hdz hce
       go_upto_region 3 with(at_builtin;refine wpList_appQ rfl _ _ _ rfl Tryz.underlying37 w3.heap.size X5.out.size A5 c5 (K+1) _ rfl HLR.out.symm HO5.out (some ⟨jb,jo,none⟩) _ _ (l.drop K) rfl HDD.out HDZ.out HBB.out (l.length+1) om ?_;intro A6 c6 w6 ho6 hg6)
       obtain⟨n1,n2,n3⟩:=HNX.out A6 c6 w6 ho6 (Ext.app X5.out HO5.out hg6);clear ho6 hg6 HNX HDZ HBB HDD HO5 X5;exact SW5z2
      ·have hceI:¬(c1:Int)=(K:Int):=om
       go_upto_region 3 with(at_builtin;refine wpList_appQ rfl _ _ _ rfl Tryz.underlying37 w3.heap.size X5.out.size A5 c5 (K+1) _ rfl HLR.out.symm HO5.out (some ⟨jb,jo+K*2,none⟩) (c1-K) (l.length-K) (l.drop K) rfl HDD.out HCD.out HBB.out (l.length+1) om ?_;intro A6 c6 w6 ho6 hg6)
       obtain⟨n1,n2,n3⟩:=HNX.out A6 c6 w6 ho6 (Ext.app X5.out HO5.out hg6);clear ho6 hg6 HNX HCD HBB HDD HO5 X5;exact SW5z2
  ·have hI:¬(i:Int)<b.length:=om;obtain rfl:i=b.length:=om;have HF:=lh (show RetMg2 A c a b w (.returned (.slice A1 l.length c1)) wr from⟨l,A1,c1,rfl,HL.out.1.1,HL.out.1.2,by have:=HL.out.2.1;rwa [List.take_length] at this,HL.out.2.2,x1⟩)
   go_wp2_with fail
   go_ret
   exact HF.out
theorem evP_keys (G:List Ins)(ts:List Int)(k:Nat):(evP G ts k).Pairwise (fun s t=>s.1<t.1)/\∀s∈evP G ts k,0<=s.1/\s.1<k:=by
 induction k with
 | zero=>exact⟨List.Pairwise.nil,fun s h=>by simp[evP] at h⟩
 | succ k ih=>
  obtain⟨h1,h2⟩:=ih
  cases hb:(pkAt G ts k).1 with
  | true=>
   rw[evP_yes hb];refine⟨List.pairwise_append.2 ⟨h1,List.pairwise_singleton _ _,fun a ha b hb=>?_⟩,fun s hs=>?_⟩
   ·rw[List.mem_singleton.1 hb];have:=(h2 a ha).2;simpa using this
   ·rcases List.mem_append.1 hs with hs|hs
    ·have:=h2 s hs;omega
    ·rw[List.mem_singleton.1 hs];simp;omega
  | false=>
   rw[evP_no hb];exact⟨h1,fun s hs=>by have:=h2 s hs;omega⟩
def catP (ps:List Pc)(i:Nat):List Int:=((ps.take i).map (·.l)).flatten
theorem catP_succ (ps:List Pc)(i:Nat)(h:i<ps.length):catP ps (i+1)=catP ps i++ps[i].l:=by
 unfold catP;rw[List.take_succ_eq_append_getElem h,List.map_append,List.flatten_append];simp
theorem catP_all (ps:List Pc):catP ps ps.length=(ps.map (·.l)).flatten:=by unfold catP;rw[List.take_length]
theorem catP_pre (ps:List Pc)(i:Nat):∃r,(ps.map (·.l)).flatten=catP ps i++r:=by
 refine⟨((ps.drop i).map (·.l)).flatten,?_⟩;unfold catP
 rw[<-List.flatten_append,<-List.map_append,List.take_append_drop]
def AllR (G:List Ins)(D:St->Bool)(t:List Int)(i:Nat)(I:List Itm)(bg:Bool)(R:List (Int×Int)):Prop:=
 (i=0/\t=[]/\I=[]/\bg=false/\R=[])\/(0<i/\bg=true/\I=(feedI G D t 0 [] false).1/\(feedI G D t 0 [] false).2.Perm R)
theorem AllR.next {G:List Ins}{D:St->Bool}{t l:List Int}{i:Nat}{I:List Itm}{bg:Bool}{R R1 RM:List (Int×Int)}(h:AllR G D t i I bg R)(h1:((feedI G D l (t.length:Nat) I bg).2).Perm R1)(hm:RM.Perm (R++R1)) :
 AllR G D (t++l) (i+1) (feedI G D l (t.length:Nat) I bg).1 true RM:=by
 refine .inr ⟨om,rfl,?_,?_⟩
 ·rcases h with⟨_,rfl,rfl,rfl,rfl⟩|⟨_,rfl,rfl,hp⟩
  ·rfl
  ·rw[feed_cut]
 ·refine List.Perm.trans ?_ hm.symm;rcases h with⟨_,rfl,rfl,rfl,rfl⟩|⟨_,rfl,rfl,hp⟩
  ·exact h1
  ·rw[feed_cut];exact hp.append h1
theorem AllR.s64 {G:List Ins}{D:St->Bool}{t:List Int}{i:Nat}{I:List Itm}{bg:Bool}{R:List (Int×Int)}(h:AllR G D t i I bg R)(hl:t.length<=1000)(hw:((feedI G D t 0 [] false).2++resOf (feedI G D t 0 [] false).1).Perm (evP G t (t.length+1))):(∀s∈R,S64 s)/\R.length<=2+t.length:=by
 rcases h with⟨_,_,_,_,rfl⟩|⟨_,_,_,hp⟩
 ·exact⟨by simp,by simp⟩
 ·have hk:∀r∈(feedI G D t 0 [] false).2,0<=r.1/\r.1<=1001:=fun r hr=>by
   have:=(evP_keys G t (t.length+1)).2 r (hw.mem_iff.1 (List.mem_append_left _ hr));omega
  refine⟨perm_s64 hp (M:=1001) hk (fun r hr=>(feed_e (M:=1001) t om).2 r hr) om,?_⟩
  rw[<-hp.length_eq];exact feed_len t
theorem all_s64 {G:List Ins}{D:St->Bool}{t:List Int}{R:List (Int×Int)}(hl:t.length<=1000)(hw:((feedI G D t 0 [] false).2++resOf (feedI G D t 0 [] false).1).Perm (evP G t (t.length+1)))(hp:((feedI G D t 0 [] false).2++resOf (feedI G D t 0 [] false).1).Perm R):(∀s∈R,S64 s)/\R.length<=1+t.length:=by
 refine⟨perm_s64 hp (M:=1001) (fun r hr=>?_) (fun r hr=>?_) om,?_⟩
 ·have:=(evP_keys G t (t.length+1)).2 r (hw.mem_iff.1 hr);omega
 ·rcases List.mem_append.1 hr with hr|hr
  ·exact(feed_e (M:=1001) t om).2 r hr
  ·obtain⟨i,hi,rfl⟩:=resOf_mem hr;exact(feed_e (M:=1001) t om).1 i hi
 ·rw[<-hp.length_eq,hw.length_eq];have:=evP_len G t (t.length+1);omega
theorem evP_eq {G:List Ins}{t:List Int}{R:List (Int×Int)}(hp:(evP G t (t.length+1)).Perm R)(hs:R.Pairwise (fun s t=>s.1<=t.1)):R=evP G t (t.length+1):=by
 have h:=(evP_keys G t (t.length+1)).1;refine(sorted_uniq hp ?_ (h.imp (fun hab=>Int.le_of_lt hab)) hs).symm;exact List.pairwise_map.2 (h.imp (fun hab=>Int.ne_of_lt hab))
def RetAll (G:List Ins)(ts:List Int)(w:World)(e:Ending)(w':World):Prop:=∃(A:Option Addr) (c:Nat),e=.returned (.tuple #[.slice A (evP G ts (ts.length+1)).length c,.bool true])/\SL w' A c (evP G ts (ts.length+1))/\Ext w w'
theorem sAll_any (w:World)(A:Option Addr)(c:Nat)(hs:List Hin)(rn:Bool)(caps:Int)(hG:GOk rn caps (insL hs))(hp:PL w A c hs)(hsz:∀h∈hs,h.l.length<=40)(hgd:∀h∈hs,∀s∈h.l,-1000000000<=s.1/\s.1<=1000000000/\-1000000000<=s.2/\s.2<=1000000000)
 (K:Option Addr) (kc:Nat) (ps:List Pc) (hO:OwnS w 0 22 1 K ps.length kc (ps.map Pc.v)) (hI:∀p∈ps,IL w p.A p.c p.l) (ts:List Int) (hts:(ps.map (·.l)).flatten=ts) (hv:ts.all (symV rn)=true) (htl:ts.length<=12) (h1:1<=ps.length/\ps.length<=5) :
 Calls Tryz.prog 23 #[progV A hs.length c caps rn,.slice K ps.length kc] w (RetAll (insL hs) ts w):=by
 have hgl:=hp.len;have hkc:=OwnS.caps hO;have EB:=Ext.alloc w (.cells #[.slice A hs.length c,.int .i64 caps,.bool rn] 35);have BB:=Blk.new w 35 #[.slice A hs.length c,.int .i64 caps,.bool rn];have HNW:=fun(w':World) (x:Ext w w')=>lh (snew_any A c hs rn caps hG w' (hp.ext x) hsz hgd);have HO:=lh hO;have HI:=lh hI;have HTS:=lh hts;have HV:=lh hv;clear hp hsz hgd hO hI hts hv hG;unfold progV;go_enter Tryz.func23,Tryz.ntmps23
 go_upto_region 1 with fail
 obtain⟨gq,hgq⟩:∃q,q=w.heap.size:=⟨_,rfl⟩
 rw[<-hgq] at BB ⊢;clear hgq;generalize w.alloc (.cells #[.slice A hs.length c,.int .i64 caps,.bool rn] 35)=wa at *;have q0:wa.cell? ⟨gq,0,none⟩=some (.slice A hs.length c):=BB.cell 0;have q1:wa.cell? ⟨gq,1,none⟩=some (.int .i64 caps):=BB.cell 1;have q2:wa.cell? ⟨gq,2,none⟩=some (.bool rn):=BB.cell 2;have HN:=HNW wa EB;have XA:=lh EB;clear EB BB HNW
 go_upto_region 6 with(go_at_call 14;refine HN.out.mono ?_;rintro e w0 ⟨gs,q,F0,rfl,hi1,hs1,hf1,x1,hck1⟩)
 have HS0:=lh (⟨hs1,fun b hb=>(hf1 b hb).2.2⟩:StT w0 F0 gs q rn caps 0 [] false);have HI1:=lh hi1;have HF0:=lh (fun b hb=>(show wa.heap.size<=b by rcases(hf1 b hb).1 with h|h;exact h.elim;exact h):∀b,F0 b->wa.heap.size<=b);have X0:=lh (XA.out.trans x1);have HCO:=lh hs1.ok;have HRN:=lh hs1.rn;have HWH:=lh (show ∀t:List Int,t.all (symV rn)=true->((feedI (insL q.cd.hs) (decL q.cd.ls) t 0 [] false).2++resOf (feedI (insL q.cd.hs) (decL q.cd.ls) t 0 [] false).1).Perm (evP (insL q.cd.hs) t (t.length+1)) from fun t ht=>whole_law HCO.out t (fun x hx=>by rw[HRN.out];exact List.all_eq_true.1 ht x hx));clear q0 q1 q2 HN hi1 hs1 hf1 hck1 x1;have HAS:=lh XA.out.size
 go_loopw [8,9] (fun v8 v9 wr=>∃(i:Nat) (OA:Option Addr) (oc:Nat) (R:List Sp) (I:List Itm) (bg:Bool) (F:Nat->Prop),v8=.slice OA R.length oc/\v9=.int .i64 i/\i<=ps.length/\Hid (StT wr F gs q rn caps (catP ps i).length I bg)/\Hid (∀b,F b->w.heap.size<=b)/\Hid (AllR (insL q.cd.hs) (decL q.cd.ls) (catP ps i) i I bg R)/\Hid (OwnPr wr 0 OA oc R)/\Hid (R.Pairwise (fun s t=>s.1<=t.1))/\Hid (Ext w wr)) (fun _ v _=>ps.length-(intOf v).toNat)
 case atStart=>exact⟨0,none,0,[],[],false,F0,rfl,rfl,Nat.zero_le _,HS0,lh (fun b hb=>Nat.le_trans HAS.out (HF0.out b hb)),lh (.inl ⟨rfl,rfl,rfl,rfl,rfl⟩),lh (OwnS.nil _ _ _ _),lh List.Pairwise.nil,X0⟩
 case round=>
  clear HS0 HF0 X0;obtain⟨i,OA,oc,R,I,bg,F,rfl,rfl,hi,HST,HF,HAR,HOR,HSO,HX⟩:=hrel;have hrc:=OwnS.caps HOR.out;have HPRE:Hid ((catP ps i).all (symV rn)=true/\(catP ps i).length<=12):=lh (by
   obtain⟨r,hr⟩:=catP_pre ps i;rw[HTS.out] at hr;have h1:=HV.out;rw[hr,List.all_append,Bool.and_eq_true] at h1;exact⟨h1.1,by have:=congrArg List.length hr;rw[List.length_append] at this;omega⟩)
  have HS6:=lh (HAR.out.s64 (by have:=HPRE.out.2;omega) (HWH.out _ HPRE.out.1));by_cases hlt:i<ps.length
  ·have hltI:(i:Int)<(ps.length:Int):=om;obtain⟨p,hpe⟩:∃p,p=ps[i]:=⟨_,rfl⟩;have hpm:p∈ps:=by rw[hpe];exact List.getElem_mem hlt
   obtain⟨kb,ko,hK,hc⟩:=OwnS.cells (OwnS.ext HO.out HX.out) (by intro e;have:=congrArg List.length e;simp at this;subst this;simp at hlt);have hci:=hc i (by simpa using hlt);rw[List.getElem_map,<-hpe] at hci;have hci:wr.cell? ⟨kb,ko+i,none⟩=some (.slice p.A p.l.length p.c):=hci;have HCS:=lh (catP_succ ps i hlt)
   rw[<-hpe] at HCS;have HPN:Hid ((catP ps i++p.l).all (symV rn)=true/\(catP ps i++p.l).length<=12):=lh (by
    obtain⟨r,hr⟩:=catP_pre ps (i+1);rw[HTS.out,HCS.out] at hr;have h1:=HV.out;rw[hr,List.all_append,Bool.and_eq_true] at h1;exact⟨h1.1,by have:=congrArg List.length hr;rw[List.length_append] at this;omega⟩)
   have HPA:Hid (p.l.all (symV rn)=true/\(catP ps i).length+p.l.length<=12):=lh (by
    have h1:=HPN.out.1;rw[List.all_append,Bool.and_eq_true] at h1;exact⟨h1.2,by have:=HPN.out.2;rw[List.length_append] at this;exact this⟩)
   have HPI:=lh (HI.out p hpm);have hplc:=(HPI.out).len;have HFD:=lh (feed_any wr F gs q rn caps (catP ps i).length I bg HST.out.s p.A p.c p.l (fun w' kk=>HPI.out.ext (Ext.kp HX.out kk HF.out)) HPA.out.1 (by have:=HPA.out.2;omega));subst hK;clear hc hpe hpm
   go_upto_region 11 with(go_at_call 16;refine HFD.out.mono ?_;rintro e w8 ⟨A8,c8,R8,rfl,ho8⟩)
   obtain⟨t8,r8⟩:=ho8.t;have HT8:=lh t8;have HR8:=lh r8;have HO8:=lh (RsL.kp (show RsL wr OA oc R from HOR.out) ho8.kp HST.out.np);have HX8:=lh (Ext.kp HX.out ho8.kp HF.out);have HAN:=lh (HAR.out.next ho8.pm (List.Perm.refl (R++R8)));have HS8:=lh (HAN.out.s64 (by have:=HPN.out.2;omega) (HWH.out _ HPN.out.1));have HPM8:=lh ho8.pm;have HLR:Hid (R.length<=1000/\R8.length<=1000):=lh (by have h1:=HS8.out.2;have h2:=HPN.out.2;rw[List.length_append] at h1;omega);have HMG:=lh (merged2_any R R8 OA A8 oc c8 w8 (HO8.out.sl (fun s hs=>HS8.out.1 s (List.mem_append_left _ hs))) (HR8.out.sl (fun s hs=>HS8.out.1 s (List.mem_append_right _ hs))) HSO.out HLR.out.1 HLR.out.2 HS8.out.1);clear t8 r8 ho8 HFD hci hrc;have hrc:=OwnS.caps HO8.out;have hrc8:=OwnS.caps HR8.out
   go_wp2_with fail
   refine HMG.out.mono ?_;rintro e w9 ⟨RM,AM,cM,rfl,hsl,how,hpm,hso,xm⟩;have HOM:Hid (OwnPr w9 0 AM cM RM):=lh (by
    rcases how with⟨rfl,rfl,rfl⟩|h
    ·exact OwnS.ext HO8.out xm
    ·exact h)
   have HAM:Hid (AllR (insL q.cd.hs) (decL q.cd.ls) (catP ps (i+1)) (i+1) (feedI (insL q.cd.hs) (decL q.cd.ls) p.l ((catP ps i).length:Nat) I bg).1 true RM):=lh (by
    rw[HCS.out];exact HAR.out.next HPM8.out hpm)
   have HT9:Hid (StT w9 (F2 wr w8 F) gs q rn caps (catP ps (i+1)).length (feedI (insL q.cd.hs) (decL q.cd.ls) p.l ((catP ps i).length:Nat) I bg).1 true):=lh (by
    rw[HCS.out,List.length_append];exact HT8.out.other (KpP.of_ext (p:=fun _=>False) xm) (fun b h=>h.elim) (fun w'' kk=>HT8.out.s.cd w'' ((KpP.of_ext xm).trans kk)))
   have HF9:Hid (∀b,F2 wr w8 F b->w.heap.size<=b):=lh (fun b hb=>by
    rcases hb.1 with h|h
    ·exact HF.out b h
    ·exact Nat.le_trans HX.out.size h)
   have HS9:=lh hso;have HX9:=lh (HX8.out.trans xm);clear hsl how hpm hso xm HMG HT8 HR8 HO8 HAN HS8 HPM8
   go_wp2_with fail
   go_roundw
   case rel=>exact⟨i+1,AM,cM,RM,_,true,_,rfl,by go_num,om,HT9,HF9,HAM,HOM,HS9,HX9⟩
   case measure=>simp[intOf];omega
  ·obtain rfl:i=ps.length:=om;have hle:¬(ps.length:Int)<(ps.length:Int):=om;have hAR:=HAR.out;rcases hAR with⟨h0,_⟩|⟨_,hbg,hIe,hPe⟩
   ·omega
   have HCT:Hid (catP ps ps.length=ts):=lh (by rw[catP_all];exact HTS.out);rw[HCT.out] at hIe hPe;have HIE:=lh hIe;have HPE:=lh hPe;subst hbg;clear hIe hPe HAR;have HCL:=lh (close_any wr F gs q rn caps (catP ps ps.length).length I true HST.out.s (by rw[HCT.out];omega))
   go_upto_region 13 with(go_at_call 19;refine HCL.out.mono ?_;rintro e w8 ⟨A8,c8,R8,rfl,ho8,hfr,hso8,hpm8,hkp8⟩)
   have HR8:=lh (show RsL w8 A8 c8 R8 from ho8);have HO8:=lh (RsL.kp (show RsL wr OA oc R from HOR.out) hkp8 HST.out.np);have HX8:=lh (Ext.kp HX.out hkp8 HF.out);have HWT:=lh (HWH.out ts HV.out);have HPP:Hid (((feedI (insL q.cd.hs) (decL q.cd.ls) ts 0 [] false).2++resOf (feedI (insL q.cd.hs) (decL q.cd.ls) ts 0 [] false).1).Perm (R++R8)):=lh (by
    have h:(resOf I).Perm R8:=hpm8;rw[HIE.out] at h;exact HPE.out.append h)
   have HS8:=lh (all_s64 om HWT.out HPP.out);have HLR:Hid (R.length<=1000/\R8.length<=1000):=lh (by have h1:=HS8.out.2;rw[List.length_append] at h1;omega);have HMG:=lh (merged2_any R R8 OA A8 oc c8 w8 (HO8.out.sl (fun s hs=>HS8.out.1 s (List.mem_append_left _ hs))) (HR8.out.sl (fun s hs=>HS8.out.1 s (List.mem_append_right _ hs))) HSO.out HLR.out.1 HLR.out.2 HS8.out.1);clear ho8 hfr hso8 hpm8 hkp8 HCL hrc;have hrc:=OwnS.caps HO8.out;have hrc8:=OwnS.caps HR8.out
   go_wp2_with fail
   refine HMG.out.mono ?_;rintro e w9 ⟨RM,AM,cM,rfl,hsl,how,hpm,hso,xm⟩;have HEQ:Hid (RM=evP (insL hs) ts (ts.length+1)):=lh (by
    have h:=evP_eq (G:=insL q.cd.hs) ((HWT.out.symm.trans HPP.out).trans hpm.symm) hso;rw[HI1.out] at h;exact h)
   have HSL:=lh hsl;have HX9:=lh (HX8.out.trans xm);clear hsl how hpm hso xm HMG HR8 HO8 HS8
   go_wp2_with fail
   exact bodyPost_ret (v:=.tuple #[.slice AM RM.length cM,.bool true]) (by simp[results,Tryz.results23,go_sem]) rfl ⟨AM,cM,by rw[<-HEQ.out],by rw[<-HEQ.out];exact HSL.out,HX9.out⟩
end
section
open Go.RowKit
def gPlus:List Ins:=[⟨1,0,0,0,[(97,97)]⟩,⟨2,2,4,0,[]⟩,⟨1,0,0,0,[(97,97)]⟩,⟨3,1,0,0,[]⟩,⟨0,0,0,0,[]⟩]
def gAlt:List Ins:=[⟨2,1,3,0,[]⟩,⟨1,0,0,0,[(97,97)]⟩,⟨3,5,0,0,[]⟩,⟨1,0,0,0,[(97,97)]⟩,⟨1,0,0,0,[(98,98)]⟩,⟨0,0,0,0,[]⟩]
def lPlus:List Bool:=[true,true,true,true,false]
def lAlt:List Bool:=[true,true,true,true,true,false]
theorem plus_feed:feedI gPlus (decL lPlus) [97,97] 0 [] false=([⟨0,[2,4],2⟩,⟨1,[2,4],2⟩,⟨2,[0],-1⟩],[]):=by kernel_rfl
theorem plus_feed2:feedI gPlus (decL lPlus) [98] 2 [⟨0,[2,4],2⟩,⟨1,[2,4],2⟩,⟨2,[0],-1⟩] true=([⟨3,[0],-1⟩],[(0,2),(1,2)]):=by kernel_rfl
theorem alt_feed:(feedI gAlt (decL lAlt) [97] 0 [] false).2=[(0,1)]:=by kernel_rfl
theorem lead_t {G:List Ins}{rn:Bool}{i:Nat}(h:leadP G rn i):leadG G rn i=true:=by unfold leadG;exact @decide_eq_true _ (Classical.propDecidable _) h
theorem lead_f {G:List Ins}{rn:Bool}{i:Nat}(h:¬leadP G rn i):leadG G rn i=false:=by unfold leadG;exact @decide_eq_false _ (Classical.propDecidable _) h
theorem done_no {G:List Ins}{rn:Bool}{i:Nat}{a:Ins}(h:G[i]? = some a)(ho:a.op=0):¬leadP G rn i:=by
 rintro⟨d,_,hr⟩;have key:∀j,¬sucE G rn i j:=by
  rintro j ⟨b,hb,hc⟩;rw[h] at hb;injection hb with hb
  subst hb;omega
 cases hr with
 | one h1=>exact key _ h1
 | cons h1 _=>exact key _ h1
theorem suc_set {G:List Ins}{i:Nat}{s:Sp}{x y n:Int}(h:G[i]? = some ⟨1,x,y,n,[s]⟩):sucE G false i (i+1):=⟨_,h,.inr (.inr (.inr ⟨rfl,⟨s,by simp,.inl rfl⟩,rfl⟩))⟩
theorem suc_split1 {G:List Ins}{i j:Nat}{x y n:Int}{l:List Sp}(h:G[i]? = some ⟨2,x,y,n,l⟩)(hj:j=x.toNat):sucE G false i j:=⟨_,h,.inl ⟨rfl,.inl hj⟩⟩
theorem suc_split2 {G:List Ins}{i j:Nat}{x y n:Int}{l:List Sp}(h:G[i]? = some ⟨2,x,y,n,l⟩)(hj:j=y.toNat):sucE G false i j:=⟨_,h,.inl ⟨rfl,.inr hj⟩⟩
theorem suc_jump {G:List Ins}{i j:Nat}{x y n:Int}{l:List Sp}(h:G[i]? = some ⟨3,x,y,n,l⟩)(hj:j=x.toNat):sucE G false i j:=⟨_,h,.inr (.inl ⟨rfl,hj⟩)⟩
theorem plus_lead:∀i,i<5->lPlus[i]? = some (leadG gPlus false i):=by
 have d4:isD gPlus 4=true:=by decide
 have e1:Rch (sucE gPlus false) 1 4:=.one (suc_split2 (x:=2) (y:=4) rfl rfl);have e0:Rch (sucE gPlus false) 0 4:=.cons (suc_set (s:=(97,97)) rfl) e1;have e3:Rch (sucE gPlus false) 3 4:=.cons (suc_jump (x:=1) rfl rfl) e1;have e2:Rch (sucE gPlus false) 2 4:=.cons (suc_set (s:=(97,97)) rfl) e3;intro i hi;have:i=0\/i=1\/i=2\/i=3\/i=4:=om;rcases this with rfl|rfl|rfl|rfl|rfl
 ·rw[lead_t ⟨4,d4,e0⟩];rfl
 ·rw[lead_t ⟨4,d4,e1⟩];rfl
 ·rw[lead_t ⟨4,d4,e2⟩];rfl
 ·rw[lead_t ⟨4,d4,e3⟩];rfl
 ·rw[lead_f (done_no (a:=⟨0,0,0,0,[]⟩) rfl rfl)];rfl
theorem alt_lead:∀i,i<6->lAlt[i]? = some (leadG gAlt false i):=by
 have d5:isD gAlt 5=true:=by decide
 have e2:Rch (sucE gAlt false) 2 5:=.one (suc_jump (x:=5) rfl rfl);have e1:Rch (sucE gAlt false) 1 5:=.cons (suc_set (s:=(97,97)) rfl) e2;have e0:Rch (sucE gAlt false) 0 5:=.cons (suc_split1 (j:=1) (x:=1) (y:=3) rfl rfl) e1;have e4:Rch (sucE gAlt false) 4 5:=.one (suc_set (s:=(98,98)) rfl);have e3:Rch (sucE gAlt false) 3 5:=.cons (suc_set (s:=(97,97)) rfl) e4;intro i hi;have:i=0\/i=1\/i=2\/i=3\/i=4\/i=5:=om;rcases this with rfl|rfl|rfl|rfl|rfl|rfl
 ·rw[lead_t ⟨5,d5,e0⟩];rfl
 ·rw[lead_t ⟨5,d5,e1⟩];rfl
 ·rw[lead_t ⟨5,d5,e2⟩];rfl
 ·rw[lead_t ⟨5,d5,e3⟩];rfl
 ·rw[lead_t ⟨5,d5,e4⟩];rfl
 ·rw[lead_f (done_no (a:=⟨0,0,0,0,[]⟩) rfl rfl)];rfl
theorem ls_known {c:Cd}(hc:CdOk c){G:List Ins}(h:insL c.hs=G)(hr:c.rn=false){ls:List Bool}(hl:ls.length=G.length)(hk:∀i,i<G.length->ls[i]? = some (leadG G false i)):c.ls=ls:=by
 have hn:c.hs.length=G.length:=by rw[<-h,insL_len]
 refine List.ext_getElem? (fun i=>?_);rcases Nat.lt_or_ge i c.hs.length with h1|h1
 ·rw[hc.lead i h1,h,hr,hk i om]
 ·rw[List.getElem?_eq_none (by rw[hc.ls];exact h1),List.getElem?_eq_none om]
def RetCk (G:List Ins)(w:World)(e:Ending)(w':World):Prop:=∃(A:Option Addr) (c:Nat) (hs:List Hin),e=.returned (.tuple #[.agg #[.slice A hs.length c,.int .i64 0,.bool false],.int .i64 0])/\insL hs=G/\PL w' A c hs/\Ext w w'
def patP (kb:Nat):Array Value:=#[.int .i64 4,.slice none 0 0,.slice (some ⟨kb,0,none⟩) 1 1,.int .i64 1,.int .i64 (-1),.int .i64 0,.int .i64 0,.bool false,.int .i64 0,.bool false]
def ndK (kb:Nat)(u v:Value):Nd:=⟨2,none,0,[],some ⟨kb,0,none⟩,2,[u,v],0,0,0,0,false⟩
def patA (kb:Nat):Array Value:=#[.int .i64 3,.slice none 0 0,.slice (some ⟨kb,0,none⟩) 2 2,.int .i64 0,.int .i64 0,.int .i64 0,.int .i64 0,.bool false,.int .i64 0,.bool false]
def CmpP:Prop:=∀(w:World) (kb sb:Nat),Blk w kb 61 (ndL sb 97).cs.toArray->Blk w sb 81 #[.int .i64 97,.int .i64 97]->Calls Tryz.prog 27 #[.agg (patP kb)] w (RetCk gPlus w)
def CmpA:Prop:=∀(w:World) (kb kc sb sc:Nat) (u v:Value),Blk w kb 61 ((ndL sb 97).cs++(ndK kc u v).cs).toArray->Blk w kc 61 ((ndL sb 97).cs++(ndL sc 98).cs).toArray->Blk w sb 81 #[.int .i64 97,.int .i64 97]->Blk w sc 81 #[.int .i64 98,.int .i64 98]->Calls Tryz.prog 27 #[.agg (patA kb)] w (RetCk gAlt w)
end
end Go.Proofs.YtmgpefenkilffaaGreat
