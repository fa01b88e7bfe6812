/- Texts of this proof: VA VB. -/
import Derived.Test.YtmgpefenkilffaaGreatSW45
import Derived.Test.YtmgpefenkilffaaGreatSW51
set_option linter.all false
set_option maxRecDepth 100000
set_option maxHeartbeats 16000000
namespace Go.Proofs.YtmgpefenkilffaaGreat
section
open Go.RowKit
theorem validE_zeroV {l:List Sp}(h:OkL l)(h2:l.length<=64):validE l=0:=by
 rw[validE_ok h,if_neg om]
theorem okL_nil:OkL []:=fun i hi=>by simp at hi
theorem okL_one {a b:Int}(h:goodS (a,b)):OkL [(a,b)]:=fun i hi=>by
 have:i=0:=by simp at hi;omega
 subst this;exact fun _=>⟨h,fun h0=>absurd h0 (Nat.lt_irrefl _)⟩
theorem okL_two {a b c d:Int}(h:goodS (a,b))(h2:goodS (c,d))(h3:b+2<=c):OkL [(a,b),(c,d)]:=fun i hi=>by
 have:i=0\/i=1:=by simp at hi;omega
 rcases this with rfl|rfl
 ·exact fun _=>⟨h,fun h0=>absurd h0 (Nat.lt_irrefl _)⟩
 ·exact fun _=>⟨h2,fun _=>h3⟩
theorem sets8_ok {l:List Sp}(h:l∈sets8):OkL l/\l.length<=40/\(∀s,l.getLast? = some s->s.2<=topV false)/\∀s∈l,-1000000000<=s.1/\s.1<=1000000000/\-1000000000<=s.2/\s.2<=1000000000:=by
 simp only[sets8,List.mem_cons,List.not_mem_nil,or_false] at h;rcases h with rfl|rfl|rfl|rfl|rfl|rfl|rfl|rfl
 all_goals refine⟨?_,by simp,by simp[topV],by simp⟩
 ·exact okL_one (by unfold goodS;simp)
 ·exact okL_one (by unfold goodS;simp)
 ·exact okL_one (by unfold goodS;simp)
 ·exact okL_one (by unfold goodS;simp)
 ·exact okL_one (by unfold goodS;simp)
 ·exact okL_two (by unfold goodS;simp) (by unfold goodS;simp) om
 ·exact okL_two (by unfold goodS;simp) (by unfold goodS;simp) om
 ·exact okL_nil
structure GdP (rn:Bool)(caps:Int)(hs:List Hin):Prop where
 ok:GOk rn caps (insL hs)
 len:hs.length<=1460
 sz:∀h∈hs,h.l.length<=40
 gd:∀h∈hs,∀s∈h.l,-1000000000<=s.1/\s.1<=1000000000/\-1000000000<=s.2/\s.2<=1000000000
theorem GdP.of {rn:Bool}{caps:Int}{hs:List Hin}(hl:0<hs.length/\hs.length<=1460)(hc:0<=caps/\caps<=9)(hi:∀i (h:i<hs.length),InsOk rn caps hs.length hs[i].ins/\hs[i].op≠5)(hz:∀h:hs.length-1<hs.length,hs[hs.length-1].op=0\/hs[hs.length-1].op=2\/hs[hs.length-1].op=3)
 (hs1:∀h∈hs,h.l.length<=40/\∀s∈h.l,-1000000000<=s.1/\s.1<=1000000000/\-1000000000<=s.2/\s.2<=1000000000):GdP rn caps hs:=by
 refine⟨⟨by rw[insL_len];omega,hc,fun k hk=>?_,fun hk=>?_,fun k hk=>?_⟩,hl.2,fun h hh=>(hs1 h hh).1,fun h hh=>(hs1 h hh).2⟩
 ·rw[insL_len] at hk;have:=(hi k hk).1
  simpa[insL] using this
 ·have h1:=hz om
  simpa[insL,Hin.ins] using h1
 ·rw[insL_len] at hk;have:=(hi k hk).2
  simpa[insL,Hin.ins] using this
theorem vi_ok {C:Int}{N:Nat}{h:Hin}(hv:VI C (0+(N:Int)) h):InsOk false C (N+1) h.ins/\h.op≠5/\h.l.length<=40/\∀s∈h.l,-1000000000<=s.1/\s.1<=1000000000/\-1000000000<=s.2/\s.2<=1000000000:=by
 obtain⟨op,x,y,n,A,c,l⟩:=h;unfold VI at hv
 simp only at hv
 unfold InsOk Hin.ins
 simp only
 rcases hv with⟨rfl,rfl,rfl,rfl,hl⟩|⟨rfl,hx,hy,rfl,rfl⟩|⟨rfl,hx,rfl,rfl,rfl⟩|⟨rfl,rfl,rfl,hn,rfl⟩
 ·obtain⟨h1,h2,h3,h4⟩:=sets8_ok hl;exact⟨⟨.inl rfl,.inr rfl,.inr (.inr rfl),.inr (.inr rfl),.inr (.inl ⟨rfl,validE_zeroV h1 om,h3⟩)⟩,by decide,h2,h4⟩
 ·exact⟨⟨.inr rfl,.inl rfl,.inl rfl,.inr (.inr rfl),.inr (.inr (.inl ⟨rfl,by push_cast;omega,by push_cast;omega⟩))⟩,by decide,by simp,by simp⟩
 ·exact⟨⟨.inr rfl,.inr rfl,.inr (.inl rfl),.inr (.inr rfl),.inr (.inr (.inr (.inl ⟨rfl,by push_cast;omega⟩)))⟩,by decide,by simp,by simp⟩
 ·exact⟨⟨.inr rfl,.inr rfl,.inr (.inr rfl),.inl rfl,.inr (.inr (.inr (.inr (.inl ⟨rfl,om⟩))))⟩,by decide,by simp,by simp⟩
theorem gdp_code {hs ks:List Hin}{N:Nat}{C:Int}(he:hs=ks++[(⟨0,0,0,0,none,0,[]⟩:Hin)])(hc:CdP C 0 N ks)(hN:N<=1456)(hC:0<=C/\C<=9):GdP false C hs:=by
 have hl:hs.length=N+1:=by rw[he,List.length_append,hc.1];rfl
 have key:∀h∈hs,InsOk false C (N+1) h.ins/\h.op≠5/\h.l.length<=40/\∀s∈h.l,-1000000000<=s.1/\s.1<=1000000000/\-1000000000<=s.2/\s.2<=1000000000:=fun h hh=>by
  rw[he] at hh;rcases List.mem_append.1 hh with hh|hh
  ·exact vi_ok (hc.2 h hh)
  ·rw[List.mem_singleton.1 hh];exact⟨⟨.inr rfl,.inr rfl,.inr (.inr rfl),.inr (.inr rfl),.inl rfl⟩,by decide,by simp,by simp⟩
 refine GdP.of om hC (fun i hi=>?_) (fun h=>?_) (fun h hh=>(key h hh).2.2)
 ·have:=key _ (List.getElem_mem hi);rw[hl];exact⟨this.1,this.2.1⟩
 ·refine .inl ?_;have h1:hs[hs.length-1]? = some (⟨0,0,0,0,none,0,[]⟩:Hin):=by
   rw[hl,he,Nat.add_sub_cancel,<-hc.1];simp
  rw[List.getElem?_eq_getElem h] at h1;injection h1 with h1
  rw[h1]
theorem vs_ok {rn:Bool}{M:Nat}{cp:Int}{i:Nat}{h:Hin}(hv:VS M cp h)(h5:h.op=5->i+1<M):InsOk rn cp M (bareH i h).ins/\(bareH i h).op≠5/\(bareH i h).l.length<=40/\∀s∈(bareH i h).l,-1000000000<=s.1/\s.1<=1000000000/\-1000000000<=s.2/\s.2<=1000000000:=by
 obtain⟨op,x,y,n,A,c,l⟩:=h;unfold VS at hv
 simp only at hv h5
 by_cases ho:op=5
 ·subst ho;have:=h5 rfl;have e:bareH i ⟨5,x,y,n,A,c,l⟩=⟨3,(i:Int)+1,0,0,none,0,[]⟩:=by unfold bareH;rw[if_pos rfl]
  rw[e];unfold InsOk Hin.ins
  simp only
  exact⟨⟨by simp,by simp,by simp,by simp,by simp;omega⟩,by simp,by simp,by simp⟩
 ·have e:bareH i ⟨op,x,y,n,A,c,l⟩=⟨op,x,y,n,A,c,l⟩:=by unfold bareH;rw[if_neg ho]
  rw[e];unfold InsOk Hin.ins
  simp only
  have ht:255<=topV rn:=by cases rn<;>simp[topV]
  rcases hv with⟨rfl,rfl,rfl,rfl,rfl⟩|⟨rfl,rfl,rfl,rfl,hl⟩|⟨rfl,hx,hy,rfl,rfl⟩|⟨rfl,hx,rfl,rfl,rfl⟩|⟨rfl,rfl,rfl,hn,rfl⟩|⟨rfl,_⟩
  ·exact⟨⟨.inr rfl,.inr rfl,.inr (.inr rfl),.inr (.inr rfl),.inl rfl⟩,by decide,by simp,by simp⟩
  ·rcases hl with rfl|⟨e,he1,he2,rfl⟩
   ·exact⟨⟨.inl rfl,.inr rfl,.inr (.inr rfl),.inr (.inr rfl),.inr (.inl ⟨rfl,validE_zeroV okL_nil si,by simp⟩)⟩,by decide,by simp,by simp⟩
   ·exact⟨⟨.inl rfl,.inr rfl,.inr (.inr rfl),.inr (.inr rfl),.inr (.inl ⟨rfl,validE_zeroV (okL_one (by unfold goodS;omega)) si,by simp;omega⟩)⟩,by decide,by simp,by simp;omega⟩
  ·exact⟨⟨.inr rfl,.inl rfl,.inl rfl,.inr (.inr rfl),.inr (.inr (.inl ⟨rfl,om,om⟩))⟩,by decide,by simp,by simp⟩
  ·exact⟨⟨.inr rfl,.inr rfl,.inr (.inl rfl),.inr (.inr rfl),.inr (.inr (.inr (.inl ⟨rfl,om⟩)))⟩,by decide,by simp,by simp⟩
  ·exact⟨⟨.inr rfl,.inr rfl,.inr (.inr rfl),.inl rfl,.inr (.inr (.inr (.inr (.inl ⟨rfl,om⟩))))⟩,by decide,by simp,by simp⟩
  ·exact absurd rfl ho
theorem gdp_some {rn:Bool}{hs L:List Hin}{cp:Int}(hc:CodeS hs.length cp hs)(hl:1<=hs.length/\hs.length<=12)(hcp:0<=cp/\cp<=2)(hb:BareK hs L hs.length):GdP rn cp L:=by
 have hz:∀h:hs.length-1<hs.length,hs[hs.length-1].op=0\/hs[hs.length-1].op=2\/hs[hs.length-1].op=3:=fun h=>by
  have e:hs=hs.take (hs.length-1)++[hs[hs.length-1]]:=by
   have h2:=List.take_succ_eq_append_getElem h
   rw[<-h2,List.take_of_length_le om]
  exact hc.2 _ _ e rfl
 have key:∀i (h:i<L.length),InsOk rn cp hs.length L[i].ins/\L[i].op≠5/\L[i].l.length<=40/\∀s∈L[i].l,-1000000000<=s.1/\s.1<=1000000000/\-1000000000<=s.2/\s.2<=1000000000:=fun i h=>by
  have hi:i<hs.length:=by rw[<-hb.1];exact h
  rw[hb.2 i h hi,if_pos hi];refine vs_ok (hc.1 _ (List.getElem_mem hi)) (fun h5=>?_);rcases Nat.lt_or_ge (i+1) hs.length with h1|h1
  ·exact h1
  ·have e:i=hs.length-1:=om;subst e;have:=hz hi;omega
 refine GdP.of (by rw[hb.1];omega) om (fun i h=>⟨by rw[hb.1];exact(key i h).1,(key i h).2.1⟩) (fun h=>?_) (fun z hzm=>?_)
 ·have hi:hs.length-1<hs.length:=om;have h1:=hz hi;have e2:L[L.length-1]=bareH (hs.length-1) hs[hs.length-1]:=by
   have h3:=hb.2 (L.length-1) h (by rw[hb.1];omega);rw[if_pos (by rw[hb.1];omega)] at h3;rw[h3]
   congr 1
   ·rw[hb.1]
   ·congr 1;rw[hb.1]
  rw[e2];unfold bareH;rw[if_neg om];exact h1
 ·obtain⟨i,hi,rfl⟩:=List.getElem_of_mem hzm;exact(key i hi).2.2
end
section
open Go.RowKit
attribute [local go_sem ↓] Go.wp_at_zero Go.wp_at_succ
theorem no_twoV {w:World}{g T n c:Nat}{a:Option Addr}{k:Int}{r:Bool}(h:Blk w g T #[.slice a n c,.int .i64 k,.bool r]){q:Nat}{u v:Int}(e1:w.cell? ⟨g,q,none⟩=some (.int .i64 u))(e2:w.cell? ⟨g,q+1,none⟩=some (.int .i64 v)):False:=by
 rw[h.cell q] at e1;rw[h.cell (q+1)] at e2;have hq:q=0\/q=1\/2<=q:=om;rcases hq with rfl|rfl|hq
 ·simp at e1
 ·simp at e2
 ·rw[Array.getElem?_eq_none (by simp;omega)] at e2;cases e2
theorem PL.kp3V {w w':World}{A a:Option Addr}{c g T m d:Nat}{k:Int}{r:Bool}{hs:List Hin}(h:PL w A c hs)(hb:Blk w g T #[.slice a m d,.int .i64 k,.bool r])(kk:KpP (·=g) w w'):PL w' A c hs:=by
 refine⟨h.le,h.cap,h.rng,fun z hz=>(h.sl z hz).kpZ kk (fun hn b hb2 e=>?_),fun hn=>?_⟩
 ·obtain⟨b',o,hA,hc⟩:=(h.sl z hz).at_ hn;rw[hA] at hb2;have e2:b'=b:=by simpa using hb2
  have e3:b=g:=e;subst e3 e2;have h0:=hc 0 (List.length_pos_iff.2 hn);exact no_twoV hb h0.1 h0.2
 ·obtain⟨b,o,rfl,hc⟩:=h.at_ hn;refine⟨b,o,rfl,fun i hi=>?_⟩;have hne:¬(b=g):=fun e=>by
   subst e;have h0:=hc i hi;exact no_twoV hb h0.1 h0.2.1
  have hbk:=kk.block b (World.block_lt_of_cell? _ _ (hc i hi).1) hne;have hce:∀q,w'.cell? ⟨b,q,none⟩=w.cell? ⟨b,q,none⟩:=fun q=>World.cell?_of_block (w:=w) (show w'.heap[(⟨b,q,none⟩:Addr).block]? = _ from hbk);simp only[hce];exact hc i hi
def RetPg (w:World)(e:Ending)(w':World):Prop:=
 ∃(A:Option Addr) (c:Nat) (hs:List Hin) (caps:Int) (rn:Bool),e=.returned (.agg #[.slice A hs.length c,.int .i64 caps,.bool rn])/\PL w' A c hs/\GdP rn caps hs/\Ext w w'
theorem sProgram_any (w:World)(LA:Option Addr)(lc:Nat)(ls:List Int)(MA:Option Addr)(mc:Nat)(ms:List Int)(kd:Bool)(hl:IL w LA lc ls)(hm:IL w MA mc ms) :
 Calls Tryz.prog 11 #[.slice LA ls.length lc,.slice MA ms.length mc,.bool kd] w (RetPg w):=by
 have B0:=Blk.new w 25 #[.slice none 0 0,.int .i64 0,.bool false];have E0:=Ext.alloc w (.cells #[.slice none 0 0,.int .i64 0,.bool false] 25);have HL:=lh hl;have HM:=lh hm;clear hl hm;go_enter Tryz.func11,Tryz.ntmps11
 go_upto_region 1 with fail
 obtain⟨g6,hg6⟩:∃g,g=w.heap.size:=⟨_,rfl⟩
 rw[<-hg6] at B0 ⊢;have hg6l:w.heap.size<=g6:=om;clear hg6;generalize w.alloc (.cells #[.slice none 0 0,.int .i64 0,.bool false] 25)=wa at *;have HB0:=lh B0;have HE0:=lh E0;have HPL:=lh (xplain_F wa LA lc ls MA mc ms (HL.out.ext E0) (HM.out.ext E0));have HSM:=lh (xsome_V wa LA lc ls (HL.out.ext E0));clear B0 E0;cases kd
 ·have HBA:=fun(W:World) (x:Ext wa W) (A:Option Addr) (c:Nat) (hs:List Hin) (caps:Int) (rn:Bool) (hp:PL W A c hs) (h:1<=hs.length/\hs.length<=12)=>lh (sBare_any W A c hs caps rn hp ⟨h.1,om⟩)
  go_upto_region 5 with fail
  go_wp2_with fail
  refine HSM.out.mono ?_;rintro e w3 ⟨A3,c3,hs3,cp3,rn3,rfl,hg3,hc3,hl1,hl2,hcp1,hcp2,x3⟩;have HP3:=lh (show PL w3 A3 c3 hs3 from PL.of_own hg3.own (fun z hz=>(hg3.ok z hz).1) (fun z hz=>(hg3.ok z hz).2.1));have HB:=HBA w3 x3 A3 c3 hs3 cp3 rn3 HP3.out ⟨hl1,hl2⟩;have HC3:=lh hc3;have HX3:=lh (HE0.out.trans x3);have HB3:=lh (HB0.out.ext x3);clear HBA hg3 hc3 x3 HSM HPL
  go_wp2_with fail
  refine HB.out.mono ?_;rintro e w4 ⟨A4,c4,L,rfl,hp4,hb4,x4⟩;have HP4:=lh hp4;have HG4:=lh (show GdP rn3 cp3 L from gdp_some HC3.out ⟨hl1,hl2⟩ ⟨hcp1,hcp2⟩ hb4);have HX4:=lh (HX3.out.trans x4);have BB:=HB3.out.ext x4;obtain⟨t0,t1,t2,tf0,tf1,tf2,_⟩:=BB.c3;clear hp4 hb4 x4 HB HB3 HX3
  go_wp2_with fail
  have b9:=setGp_blk BB A4 L.length c4 cp3 rn3;have x9:=setGp_ext HX4.out hg6l A4 L.length c4 cp3 rn3;have k9:=setGp_kpp (p:=(·=g6)) (KpP.refl _ w4) rfl A4 L.length c4 cp3 rn3;change bodyPost _ _ _ _ _ (setGp w4 g6 A4 L.length c4 cp3 rn3);have p9:=HP4.out.kp3V BB k9;generalize setGp w4 g6 A4 L.length c4 cp3 rn3=w9 at *;obtain⟨r0,r1,r2,_⟩:=b9.c3;exact bodyPost_ret (v:=.agg #[.slice A4 L.length c4,.int .i64 cp3,.bool rn3]) (by simp[results,Tryz.results11,go_sem,r0,r1,r2]) rfl ⟨A4,c4,L,cp3,rn3,rfl,p9,HG4.out,x9⟩
 ·go_upto_region 3 with(go_at_call 26;refine HPL.out.mono ?_;rintro e w1 ⟨n,gr,TA,tc,ts,he,⟨T,hT,hGd,hcn,hcm⟩,hgr,hTl,hfr,htb,htl,x1⟩;have he2:e=.returned (.tuple #[.agg (ptC n gr false),.slice TA ts.length tc]):=he;subst he2;clear he;unfold ptC)
  change Code.wp _ _ _ _ (w1.alloc (.cells (ptC n gr false) 63));have E2:=Ext.alloc w1 (.cells (ptC n gr false) 63);have B2:=Blk.new w1 63 (ptC n gr false);have HX2:=lh (x1.trans E2);have HT2:=lh (hT.ext E2);have HGD:=lh hGd;have HCM0:=lh hcm;clear hT hGd hcm hTl hfr htb htl x1 HPL HSM;obtain⟨g2,hg2⟩:∃g,g=w1.heap.size:=⟨_,rfl⟩
  rw[<-hg2] at B2 ⊢;clear hg2 E2;generalize w1.alloc (.cells (ptC n gr false) 63)=w2 at *;have HCM:=lh (xcompile_G _ 6 om w2 n gr T HT2.out HGD.out om HCM0.out om);obtain⟨p0,p1,p2,p3,p4,p5,p6,p7,p8,p9⟩:=pt_cells B2
  go_upto_region 4 with(go_at_call 33;refine HCM.out.mono ?_;rintro e w3 ⟨A3,c3,hs3,rfl,hg3,x3⟩)
  have HX3:=lh (HE0.out.trans (HX2.out.trans x3));have HG3:=lh hg3;have HB3:=lh (HB0.out.ext (HX2.out.trans x3));clear hg3 x3 HX2 HCM HT2 B2 p0 p1 p2 p3 p4 p5 p6 p7 p8 p9;change Code.wp _ _ _ _ (w3.alloc (.cells #[.slice A3 hs3.length c3,.int .i64 gr,.bool false] 25));have E4:=Ext.alloc w3 (.cells #[.slice A3 hs3.length c3,.int .i64 gr,.bool false] 25);have B4:=Blk.new w3 25 #[.slice A3 hs3.length c3,.int .i64 gr,.bool false];obtain⟨g15,hg15⟩:∃g,g=w3.heap.size:=⟨_,rfl⟩
  rw[<-hg15] at B4 ⊢;clear hg15;have HX4:=lh (HX3.out.trans E4);have HG4:=lh (HG3.out.ext E4);have BB:=HB3.out.ext E4;clear E4 HX3 HG3 HB3;generalize w3.alloc (.cells #[.slice A3 hs3.length c3,.int .i64 gr,.bool false] 25)=w4 at *;obtain⟨e0,e1,e2,_⟩:=B4.c3;obtain⟨t0,t1,t2,tf0,tf1,tf2,_⟩:=BB.c3
  go_wp2_with fail
  have b9:=setGp_blk BB A3 hs3.length c3 gr false;have x9:=setGp_ext HX4.out hg6l A3 hs3.length c3 gr false;change bodyPost _ _ _ _ _ (setGp w4 g6 A3 hs3.length c3 gr false);have p9:=HG4.out.pl.kp3V BB (setGp_kpp (p:=(·=g6)) (KpP.refl _ w4) rfl A3 hs3.length c3 gr false);have HGP:=lh (show GdP false gr hs3 by
   obtain⟨ks,N,he,hc,hN⟩:=HG4.out.code;exact gdp_code he hc hN om)
  generalize setGp w4 g6 A3 hs3.length c3 gr false=w9 at *;obtain⟨r0,r1,r2,_⟩:=b9.c3;exact bodyPost_ret (v:=.agg #[.slice A3 hs3.length c3,.int .i64 gr,.bool false]) (by simp[results,Tryz.results11,go_sem,r0,r1,r2]) rfl ⟨A3,c3,hs3,gr,false,rfl,p9,HGP.out,x9⟩
end
end Go.Proofs.YtmgpefenkilffaaGreat
