/- Texts of this proof: V7 V8 ZA CAg V6. -/
import Derived.Test.YtmgpefenkilffaaGreatSW37
import Derived.Test.YtmgpefenkilffaaGreatSW43
set_option linter.all false
set_option maxRecDepth 100000
set_option maxHeartbeats 16000000
namespace Go.Proofs.YtmgpefenkilffaaGreat
section
open Go.RowKit
attribute [local go_sem ↓] Go.wp_at_zero Go.wp_at_succ
def bareH (i:Nat)(h:Hin):Hin:=if h.op=5 then⟨3,(i:Int)+1,0,0,none,0,[]⟩ else h
def BareK (hs L:List Hin)(k:Nat):Prop:=L.length=hs.length/\∀i (h:i<L.length) (h':i<hs.length),L[i]=if i<k then bareH i hs[i] else hs[i]
def ArN (cs:Array Value)(L:List Hin):Prop:=∀i (h:i<L.length),cs[i*5]? = some (.int .i64 L[i].op)/\cs[i*5+1]? = some (.int .i64 L[i].x)/\cs[i*5+2]? = some (.int .i64 L[i].y)/\cs[i*5+3]? = some (.int .i64 L[i].n)/\cs[i*5+4]? = some (.slice L[i].A L[i].l.length L[i].c)
theorem ArN.set {cs:Array Value}{L:List Hin}(h:ArN cs L){i:Nat}(hi:i<L.length)(z:Hin) :
 ArN (((((cs.setIfInBounds (i*5) (.int .i64 z.op)).setIfInBounds (i*5+1) (.int .i64 z.x)).setIfInBounds (i*5+2) (.int .i64 z.y)).setIfInBounds (i*5+3) (.int .i64 z.n)).setIfInBounds (i*5+4) (.slice z.A z.l.length z.c)) (L.set i z):=by
 intro j hj;rw[List.length_set] at hj;have h5:i*5+4<cs.size:=by
  have:=(h i hi).2.2.2.2;exact(Array.getElem?_eq_some_iff.1 this).1
 by_cases e:i=j
 ·subst e;simp only[List.getElem_set_self,Array.getElem?_setIfInBounds,Array.size_setIfInBounds];refine⟨?_,?_,?_,?_,?_⟩<;>(repeat rw[if_neg om])<;>rw[if_pos trivial,if_pos om]
 ·obtain⟨a0,a1,a2,a3,a4⟩:=h j hj;simp only[List.getElem_set_ne e,Array.getElem?_setIfInBounds,Array.size_setIfInBounds];refine⟨?_,?_,?_,?_,?_⟩<;>(repeat rw[if_neg om])<;>assumption
theorem ArN.get {cs:Array Value}{L:List Hin}(h:ArN cs L){i:Nat}(hi:i<L.length):cs[i*5]? = some (.int .i64 L[i].op):=(h i hi).1
theorem ArN.pl {w:World}{g T c:Nat}{cs:Array Value}{L:List Hin}(h:ArN cs L)(hb:Blk w g T cs)(hc:L.length<=c/\c<=maxLen)(hw:∀z∈L,z.wf)(hs:∀z∈L,SL w z.A z.c z.l):PL w (some ⟨g,0,none⟩) c L:=by
 refine⟨hc.1,hc.2,hw,hs,fun _=>⟨g,0,rfl,fun i hi=>?_⟩⟩;obtain⟨a0,a1,a2,a3,a4⟩:=h i hi;simp only[Nat.zero_add];exact⟨by rw[hb.cell,a0],by rw[hb.cell,a1],by rw[hb.cell,a2],by rw[hb.cell,a3],by rw[hb.cell,a4]⟩
theorem ArN.of_take {cs:Array Value}{L:List Hin}(h:cs.toList.take (L.length*5)=flatN L):ArN cs L:=by
 intro i hi;have hg:∀q,q<5->cs[i*5+q]? = (flatN L)[i*5+q]?:=fun q hq=>by
  rw[<-h,List.getElem?_take,if_pos om,<-Array.getElem?_toList]
 have h0:=hg 0 om;rw[Nat.add_zero] at h0;obtain⟨f0,f1,f2,f3,f4⟩:=flatN_get L i hi;exact⟨by rw[h0,f0],by rw[hg 1 om,f1],by rw[hg 2 om,f2],by rw[hg 3 om,f3],by rw[hg 4 om,f4]⟩
theorem BareK.zero (hs:List Hin):BareK hs hs 0:=⟨rfl,fun i h h'=>by rw[if_neg om]⟩
theorem BareK.skip {hs L:List Hin}{k:Nat}(h:BareK hs L k)(hk:k<hs.length)(h5:¬hs[k].op=5):BareK hs L (k+1):=⟨h.1,fun i hi hi'=>by
 rw[h.2 i hi hi'];by_cases e:i=k
 ·subst e;rw[if_neg (Nat.lt_irrefl _),if_pos (Nat.lt_succ_self _)];unfold bareH;rw[if_neg h5]
 ·by_cases h1:i<k
  ·rw[if_pos h1,if_pos om]
  ·rw[if_neg h1,if_neg om]⟩
theorem BareK.put {hs L:List Hin}{k:Nat}(h:BareK hs L k)(hk:k<hs.length)(h5:hs[k].op=5):BareK hs (L.set k ⟨3,(k:Int)+1,0,0,none,0,[]⟩) (k+1):=⟨by rw[List.length_set];exact h.1,fun i hi hi'=>by
 rw[List.length_set] at hi;by_cases e:k=i
 ·subst e;rw[List.getElem_set_self,if_pos (Nat.lt_succ_self _)];unfold bareH;rw[if_pos h5]
 ·rw[List.getElem_set_ne e,h.2 i hi hi'];by_cases h1:i<k
  ·rw[if_pos h1,if_pos om]
  ·rw[if_neg h1,if_neg om]⟩
theorem BareK.op {hs L:List Hin}{k:Nat}(h:BareK hs L k)(hk:k<hs.length)(hk':k<L.length):L[k]=hs[k]:=by
 rw[h.2 k hk' hk,if_neg (Nat.lt_irrefl _)]
theorem PL.cellsB {w:World}{A:Option Addr}{c:Nat}{hs:List Hin}(h:PL w A c hs):CellsAt w A (flatN hs):=fun hn=>by
 have hne:hs≠[]:=fun e=>hn (by rw[e];rfl);obtain⟨b,o,hA,hc⟩:=h.at_ hne;refine⟨b,o,hA,fun j hj=>?_⟩;have hj5:j<hs.length*5:=by rw[flatN_len] at hj;exact hj
 have hi:j / 5<hs.length:=om;obtain⟨c0,c1,c2,c3,c4⟩:=hc (j / 5) hi;obtain⟨f0,f1,f2,f3,f4⟩:=flatN_get hs (j / 5) hi;have key:∀(r:Nat) (v:Value),j=j / 5*5+r->w.cell? ⟨b,o+j / 5*5+r,none⟩=some v->(flatN hs)[j / 5*5+r]? = some v->w.cell? ⟨b,o+j,none⟩=some (flatN hs)[j]:=fun r v hr h1 h2=>by
  have e1:o+j=o+j / 5*5+r:=om;rw[e1,h1]
  congr 1
  obtain⟨_,h3⟩:=List.getElem?_eq_some_iff.1 h2
  rw[<-h3]
  congr 1
  exact hr.symm
 have hr:j % 5=0\/j % 5=1\/j % 5=2\/j % 5=3\/j % 5=4:=om;rcases hr with hr|hr|hr|hr|hr
 ·exact key 0 _ om c0 f0
 ·exact key 1 _ om c1 f1
 ·exact key 2 _ om c2 f2
 ·exact key 3 _ om c3 f3
 ·exact key 4 _ om c4 f4
def RetBare (hs:List Hin)(caps:Int)(rn:Bool)(w:World)(e:Ending)(w':World):Prop:=
 ∃(A:Option Addr) (c:Nat) (L:List Hin),e=.returned (.agg #[.slice A L.length c,.int .i64 caps,.bool rn])/\PL w' A c L/\BareK hs L hs.length/\Ext w w'
theorem sBare_any (w:World)(A:Option Addr)(c:Nat)(hs:List Hin)(caps:Int)(rn:Bool)(hP:PL w A c hs)(hl:1<=hs.length/\hs.length<=1000) :
 Calls Tryz.prog 59 #[.agg #[.slice A hs.length c,.int .i64 caps,.bool rn]] w (RetBare hs caps rn w):=by
 obtain⟨B1,B2,E0⟩:=alloc2 w 25 #[.slice A hs.length c,.int .i64 caps,.bool rn] 25 #[.slice none 0 0,.int .i64 0,.bool false];obtain⟨iP,jP0,jP1,jP2,jP3⟩:=info_parts infoIn;have hlen:=hP.len;have HP:=lh hP;clear hP;go_enter Tryz.func59,Tryz.ntmps59
 go_upto_region 1 with fail
 obtain⟨g1,hg1⟩:∃g,g=w.heap.size:=⟨_,rfl⟩;obtain⟨g2,hg2e⟩:∃g,g=w.heap.size+1:=⟨_,rfl⟩
 rw[<-hg2e] at B2 ⊢
 rw[<-hg1] at B1 ⊢;have h12:g1≠g2:=om;have hg1w:w.heap.size<=g1:=om;have hg2w:w.heap.size<=g2:=om;clear hg1 hg2e;generalize ((w.alloc (.cells #[.slice A hs.length c,.int .i64 caps,.bool rn] 25)).alloc (.cells #[.slice none 0 0,.int .i64 0,.bool false] 25))=wa at *;have z0:wa.cell? ⟨g1,0,none⟩=some (.slice A hs.length c):=B1.cell 0;have E1:=Ext.alloc wa (.cells #[] 128);have BE:=Blk.new wa 128 #[];have HCE:=lh (PL.cellsB (HP.out.ext (E0.trans E1)));have z0':=E1.cell z0;have HOE:=lh (show OwnS (wa.alloc (.cells #[] 128)) wa.heap.size 128 5 (some ⟨wa.heap.size,0,none⟩) 0 0 [] by
  have h:=OwnS.of_blk (n:=0) (c:=0) (size:=5) (base:=wa.heap.size) BE (Nat.le_refl _) si si um
  simpa using h)
 go_upto_region 2 with(at_builtin;refine wpList_app _ rfl _ _ _ rfl wa.heap.size 128 iP _ 5 56 Tryz.underlying23 jP0 jP1 jP2 jP3 rfl om _ 0 0 [] rfl HOE.out A hs.length c (flatN hs) rfl (flatN_len hs) HCE.out (flatN_one hs) um om E1.size ?_;intro A3 c3 w3 ho3 hg3 hat3)
 have X3:=lh (Ext.app E1 HOE.out hg3);have h0n:0+hs.length=hs.length:=Nat.zero_add _;rw[List.nil_append] at ho3;rw[h0n] at ho3;rcases OwnS.form ho3 with⟨_,h0,_⟩|⟨ga,cur,hA3,hga,hbk,hc3,hm3,hcs,htk⟩
 ·exact absurd h0 om
 subst hA3;have HB3:=lh (show Blk w3 ga 128 cur from hbk);have HAR:=lh (show ArN cur hs from ArN.of_take htk);have hgaw:w.heap.size<=ga:=Nat.le_trans E0.size hga;have X0:=lh (E0.trans X3.out);have HB1:=lh (B1.ext X3.out);have HB2:=lh (B2.ext X3.out);have hn1:g1≠ga:=by
  intro e;have:=B1.lt;omega
 have hn2:g2≠ga:=by
  intro e;have:=B2.lt;omega
 have hc3':hs.length<=c3/\c3<=9223372036854775807:=OwnS.caps ho3;clear E1 BE HCE z0 z0' HOE hg3 hat3 ho3 hbk hcs htk B1 B2 E0
 go_upto_region 3 with fail
 go_loopw [4] (fun v wr=>∃(k:Nat) (L:List Hin) (cs:Array Value),v=.int .i64 k/\k<=hs.length/\Hid (BareK hs L k)/\Hid (Blk wr ga 128 cs/\ArN cs L/\(∀z∈L,z.wf/\SL w z.A z.c z.l))/\Hid (KpP (·=ga) w3 wr)) (fun v _=>hs.length-(intOf v).toNat)
 case atStart=>exact⟨0,hs,cur,rfl,om,lh (BareK.zero hs),lh ⟨HB3.out,HAR.out,fun z hz=>⟨HP.out.rng z hz,HP.out.sl z hz⟩⟩,lh (KpP.refl _ _)⟩
 case round=>
  obtain⟨k,L,cs,rfl,hk,HK,HB,HX⟩:=hrel;by_cases hlt:k<hs.length
  ·have hkI:(k:Int)<hs.length:=om;have hkL:k<L.length:=by rw[HK.out.1];exact hlt
   have c0:wr.cell? ⟨ga,k*5,none⟩=some (.int .i64 hs[k].op):=by rw[HB.out.1.cell,HB.out.2.1.get hkL,HK.out.op hlt hkL]
   have HSK:=fun(h:¬hs[k].op=5)=>lh (HK.out.skip hlt h);have HPU:=fun(h:hs[k].op=5)=>lh (HK.out.put hlt h);generalize hs[k].op=o at *;by_cases h5:o=5
   ·have HN:=HPU h5;subst h5;have f0:=HB.out.1.frz (k*5);obtain⟨a0,a1,a2,a3,a4⟩:=HB.out.2.1 k hkL;have HST:=lh (HB.out.2.1.set hkL ⟨3,(k:Int)+1,0,0,none,0,[]⟩);have b1:=HB.out.1.set (k*5) (.int .i64 3);have c1:(wr.setCell ⟨ga,k*5,none⟩ (.int .i64 3)).cell? ⟨ga,k*5+1,none⟩=some (.int .i64 L[k].x):=by rw[b1.cell,Array.getElem?_setIfInBounds,if_neg om];exact a1
    have f1:=b1.frz (k*5+1);have b2:=b1.set (k*5+1) (.int .i64 ((k:Int)+1));have c2:((wr.setCell ⟨ga,k*5,none⟩ (.int .i64 3)).setCell ⟨ga,k*5+1,none⟩ (.int .i64 ((k:Int)+1))).cell? ⟨ga,k*5+2,none⟩=some (.int .i64 L[k].y):=by
     rw[b2.cell,Array.getElem?_setIfInBounds,if_neg om,Array.getElem?_setIfInBounds,if_neg om];exact a2
    have f2:=b2.frz (k*5+2);have b3:=b2.set (k*5+2) (.int .i64 0);have c3':(((wr.setCell ⟨ga,k*5,none⟩ (.int .i64 3)).setCell ⟨ga,k*5+1,none⟩ (.int .i64 ((k:Int)+1))).setCell ⟨ga,k*5+2,none⟩ (.int .i64 0)).cell? ⟨ga,k*5+3,none⟩=some (.int .i64 L[k].n):=by
     rw[b3.cell,Array.getElem?_setIfInBounds,if_neg om,Array.getElem?_setIfInBounds,if_neg om,Array.getElem?_setIfInBounds,if_neg om];exact a3
    have f3:=b3.frz (k*5+3);have b4:=b3.set (k*5+3) (.int .i64 0);have c4:((((wr.setCell ⟨ga,k*5,none⟩ (.int .i64 3)).setCell ⟨ga,k*5+1,none⟩ (.int .i64 ((k:Int)+1))).setCell ⟨ga,k*5+2,none⟩ (.int .i64 0)).setCell ⟨ga,k*5+3,none⟩ (.int .i64 0)).cell? ⟨ga,k*5+4,none⟩=some (.slice L[k].A L[k].l.length L[k].c):=by
     rw[b4.cell,Array.getElem?_setIfInBounds,if_neg om,Array.getElem?_setIfInBounds,if_neg om,Array.getElem?_setIfInBounds,if_neg om,Array.getElem?_setIfInBounds,if_neg om];exact a4
    have f4:=b4.frz (k*5+4);have b5:=b4.set (k*5+4) (.slice none 0 0);have ks:∀(W:World) (q:Nat) (v:Value),KpP (·=ga) w3 W->KpP (·=ga) w3 (W.setCell ⟨ga,q,none⟩ v):=fun W q v h=>h.trans (KpP.set (p:=(·=ga)) (x:=⟨ga,q,none⟩) (KpP.refl _ _) (.inl rfl) v);have HX5:=lh (ks _ (k*5+4) (.slice none 0 0) (ks _ (k*5+3) (.int .i64 0) (ks _ (k*5+2) (.int .i64 0) (ks _ (k*5+1) (.int .i64 ((k:Int)+1)) (ks wr (k*5) (.int .i64 3) HX.out)))));have HB5:=lh b5;clear HSK HPU a0 a1 a2 a3 a4 b1 b2 b3 b4 b5 ks
    go_upto_region 4 with fail
    clear c0 f0 c1 f1 c2 f2 c3' f3 c4 f4;have HBF:=lh (And.intro HB5.out (And.intro HST.out (show ∀z∈L.set k ⟨3,(k:Int)+1,0,0,none,0,[]⟩,z.wf/\SL w z.A z.c z.l from fun z hz=>by
     rcases List.mem_or_eq_of_mem_set hz with hz|rfl
     ·exact HB.out.2.2 z hz
     ·exact⟨by simp[Hin.wf,I64];omega,SL.nil w⟩)))
    clear HB5 HST HB HX HK;generalize (((((wr.setCell ⟨ga,k*5,none⟩ (.int .i64 3)).setCell ⟨ga,k*5+1,none⟩ (.int .i64 ((k:Int)+1))).setCell ⟨ga,k*5+2,none⟩ (.int .i64 0)).setCell ⟨ga,k*5+3,none⟩ (.int .i64 0)).setCell ⟨ga,k*5+4,none⟩ (.slice none 0 0))=w5 at *
    go_wp2_with fail
    go_roundw
    case rel=>exact⟨k+1,_,_,by go_num,om,HN,HBF,HX5⟩
    case measure=>simp[intOf];omega
   ·have HN:=HSK h5;have hb5:(o == 5)=false:=by rw[beq_eq_false_iff_ne];exact h5
    clear HSK HPU
    go_wp2_with fail
    go_roundw
    case rel=>exact⟨k+1,L,cs,by go_num,om,HN,HB,HX⟩
    case measure=>simp[intOf];omega
  ·have hI:¬(k:Int)<hs.length:=om;obtain rfl:k=hs.length:=om;have HB1w:=lh (HX.out.blk HB1.out hn1);have HB2w:=lh (HX.out.blk HB2.out hn2);have e0:=HB1w.out.cell 0;have e0f:=HB1w.out.frz 0;have b1':=HB1w.out.set 0 (.slice (some ⟨ga,0,none⟩) hs.length c3);have e1:(wr.setCell ⟨g1,0,none⟩ (.slice (some ⟨ga,0,none⟩) hs.length c3)).cell? ⟨g1,0,none⟩=some (.slice (some ⟨ga,0,none⟩) hs.length c3):=b1'.cell 0;have e2:(wr.setCell ⟨g1,0,none⟩ (.slice (some ⟨ga,0,none⟩) hs.length c3)).cell? ⟨g1,1,none⟩=some (.int .i64 caps):=b1'.cell 1;have e3:(wr.setCell ⟨g1,0,none⟩ (.slice (some ⟨ga,0,none⟩) hs.length c3)).cell? ⟨g1,2,none⟩=some (.bool rn):=b1'.cell 2;have kk1:KpP (·=g1) wr (wr.setCell ⟨g1,0,none⟩ (.slice (some ⟨ga,0,none⟩) hs.length c3)):=KpP.set (p:=(·=g1)) (x:=⟨g1,0,none⟩) (KpP.refl _ _) (.inl rfl) _;have q0:=kk1.blk HB2w.out h12.symm;have hLn:L.length=hs.length:=HK.out.1;have hXX:∀W,KpP (fun b=>b=g1\/b=g2) wr W->Ext w W:=fun W k9=>(X0.out.kp HX.out (fun i hi=>by rw[hi];exact hgaw)).kp k9 (fun i hi=>by
    rcases hi with hi|hi
    ·rw[hi];exact hg1w
    ·rw[hi];exact hg2w)
   have HPLR:=lh (fun(W:World) (k9:KpP (fun b=>b=g1\/b=g2) wr W)=>show PL W (some ⟨ga,0,none⟩) c3 L/\Ext w W from⟨HB.out.2.1.pl (k9.blk HB.out.1 (fun e=>by rcases e with e|e;exact hn1 e.symm;exact hn2 e.symm)) (by rw[hLn];unfold maxLen;omega) (fun z hz=>(HB.out.2.2 z hz).1) (fun z hz=>(HB.out.2.2 z hz).2.ext (hXX W k9)),hXX W k9⟩);have kk2:KpP (fun b=>b=g1\/b=g2) wr (wr.setCell ⟨g1,0,none⟩ (.slice (some ⟨ga,0,none⟩) hs.length c3)):=kk1.mono (fun i hi=>.inl hi);have ks:∀(W:World) (q:Nat) (v:Value),KpP (fun b=>b=g1\/b=g2) wr W->KpP (fun b=>b=g1\/b=g2) wr (W.setCell ⟨g2,q,none⟩ v):=fun W q v h=>h.trans (KpP.set (p:=(fun b=>b=g1\/b=g2)) (x:=⟨g2,q,none⟩) (KpP.refl _ _) (.inl (.inr rfl)) v);have HKF:=lh (ks _ 2 (.bool rn) (ks _ 1 (.int .i64 caps) (ks _ 0 (.slice (some ⟨ga,0,none⟩) hs.length c3) kk2)))
   go_upto_region 8 with fail
   clear e0 e0f;generalize wr.setCell ⟨g1,0,none⟩ (.slice (some ⟨ga,0,none⟩) hs.length c3)=W1 at *;have p0:=q0.cell 0;have p0f:=q0.frz 0;have q1:=q0.set 0 (.slice (some ⟨ga,0,none⟩) hs.length c3);have p1:(W1.setCell ⟨g2,0,none⟩ (.slice (some ⟨ga,0,none⟩) hs.length c3)).cell? ⟨g2,1,none⟩=some (.int .i64 0):=q1.cell 1;have p1f:=q1.frz 1;have q2:=q1.set 1 (.int .i64 caps);have p2:((W1.setCell ⟨g2,0,none⟩ (.slice (some ⟨ga,0,none⟩) hs.length c3)).setCell ⟨g2,1,none⟩ (.int .i64 caps)).cell? ⟨g2,2,none⟩=some (.bool false):=q2.cell 2;have p2f:=q2.frz 2;have q3:=q2.set 2 (.bool rn);have r0:(((W1.setCell ⟨g2,0,none⟩ (.slice (some ⟨ga,0,none⟩) hs.length c3)).setCell ⟨g2,1,none⟩ (.int .i64 caps)).setCell ⟨g2,2,none⟩ (.bool rn)).cell? ⟨g2,0,none⟩=some (.slice (some ⟨ga,0,none⟩) hs.length c3):=q3.cell 0;have r1:(((W1.setCell ⟨g2,0,none⟩ (.slice (some ⟨ga,0,none⟩) hs.length c3)).setCell ⟨g2,1,none⟩ (.int .i64 caps)).setCell ⟨g2,2,none⟩ (.bool rn)).cell? ⟨g2,1,none⟩=some (.int .i64 caps):=q3.cell 1;have r2:(((W1.setCell ⟨g2,0,none⟩ (.slice (some ⟨ga,0,none⟩) hs.length c3)).setCell ⟨g2,1,none⟩ (.int .i64 caps)).setCell ⟨g2,2,none⟩ (.bool rn)).cell? ⟨g2,2,none⟩=some (.bool rn):=q3.cell 2;have HF:=lh (show RetBare hs caps rn w (.returned (.agg #[.slice (some ⟨ga,0,none⟩) hs.length c3,.int .i64 caps,.bool rn])) (((W1.setCell ⟨g2,0,none⟩ (.slice (some ⟨ga,0,none⟩) hs.length c3)).setCell ⟨g2,1,none⟩ (.int .i64 caps)).setCell ⟨g2,2,none⟩ (.bool rn)) from⟨some ⟨ga,0,none⟩,c3,L,by rw[hLn],(HPLR.out _ HKF.out).1,HK.out,(HPLR.out _ HKF.out).2⟩)
   go_wp2_with fail
   change bodyPost _ _ _ _ _ _;refine bodyPost_ret (v:=.agg #[.slice (some ⟨ga,0,none⟩) hs.length c3,.int .i64 caps,.bool rn]) (by simp[results,Tryz.results59,go_sem,r0,r1,r2]) rfl HF.out
theorem IL.pre {w:World}{A:Option Addr}{c:Nat}{xs:List Int}(h:IL w A c xs){k:Nat}(hk:k<=xs.length):IL w A c (xs.take k):=by
 refine⟨by rw[List.length_take];have:=h.le;omega,h.cap,fun x hx=>h.rng x (List.mem_of_mem_take hx),fun hne=>?_⟩;obtain⟨b,o,hA,hc⟩:=h.at_ (fun e=>hne (by rw[e];simp));refine⟨b,o,hA,fun i hi=>?_⟩;rw[List.length_take] at hi;rw[hc i om]
 simp
theorem IL.kpG {w w':World}{A:Option Addr}{c:Nat}{xs:List Int}{p:Nat->Prop}(h:IL w A c xs)(k:KpP p w w')(hn:∀b,A.map (·.block)=some b->¬p b):IL w' A c xs:=by
 refine⟨h.le,h.cap,h.rng,fun hne=>?_⟩;obtain⟨b,o,hA,hc⟩:=h.at_ hne;subst hA;have hb:=hn b rfl;have cells:CellsAt w (some ⟨b,o,none⟩) (xs.map (Value.int .i64)):=h.cells;obtain⟨b2,o2,hA2,hc2⟩:=(cells.kpZ k (fun b2 h2=>hn b2 h2)) (by intro e;exact hne (by simpa using e));injection hA2 with e;injection e with e1 e2 _
 subst e1;subst e2;refine⟨b,o,rfl,fun i hi=>?_⟩;have h3:=hc2 i (by simpa using hi)
 simpa using h3
def setPt (w:World)(g:Nat)(n:Nd)(gr:Int)(rn:Bool):World:=((setRe w g n).setCell ⟨g,8,none⟩ (.int .i64 gr)).setCell ⟨g,9,none⟩ (.bool rn)
def ptC (n:Nd)(gr:Int)(rn:Bool):Array Value:=#[.int .i64 n.op,.slice n.A n.l.length n.c,.slice n.K n.ks.length n.kc,.int .i64 n.mn,.int .i64 n.mx,.int .i64 n.md,.int .i64 n.n,.bool n.neg,.int .i64 gr,.bool rn]
theorem setPt_blk {w:World}{g T:Nat}{a0 a1 a2 a3 a4 a5 a6 a7 a8 a9:Value}(h:Blk w g T #[a0,a1,a2,a3,a4,a5,a6,a7,a8,a9])(n:Nd)(gr:Int)(rn:Bool):Blk (setPt w g n gr rn) g T (ptC n gr rn):=by
 have h:=(((((((((h.set 0 (.int .i64 n.op)).set 1 (.slice n.A n.l.length n.c)).set 2 (.slice n.K n.ks.length n.kc)).set 3 (.int .i64 n.mn)).set 4 (.int .i64 n.mx)).set 5 (.int .i64 n.md)).set 6 (.int .i64 n.n)).set 7 (.bool n.neg)).set 8 (.int .i64 gr)).set 9 (.bool rn)
 simpa[setPt,setRe,ptC] using h
theorem setPt_ext {a w:World}{g:Nat}(h:Ext a w)(hg:a.heap.size<=g)(n:Nd)(gr:Int)(rn:Bool):Ext a (setPt w g n gr rn):=
 ((setRe_ext h hg n).setNew (p:=⟨g,8,none⟩) hg _).setNew (p:=⟨g,9,none⟩) hg _
theorem pt_cells {w:World}{g T:Nat}{n:Nd}{gr:Int}{rn:Bool}(h:Blk w g T (ptC n gr rn)):w.cell? ⟨g,0,none⟩=some (.int .i64 n.op)/\w.cell? ⟨g,1,none⟩=some (.slice n.A n.l.length n.c)/\w.cell? ⟨g,2,none⟩=some (.slice n.K n.ks.length n.kc)/\w.cell? ⟨g,3,none⟩=some (.int .i64 n.mn)/\
 w.cell? ⟨g,4,none⟩=some (.int .i64 n.mx)/\w.cell? ⟨g,5,none⟩=some (.int .i64 n.md)/\w.cell? ⟨g,6,none⟩=some (.int .i64 n.n)/\w.cell? ⟨g,7,none⟩=some (.bool n.neg)/\w.cell? ⟨g,8,none⟩=some (.int .i64 gr)/\w.cell? ⟨g,9,none⟩=some (.bool rn):=
 ⟨h.cell 0,h.cell 1,h.cell 2,h.cell 3,h.cell 4,h.cell 5,h.cell 6,h.cell 7,h.cell 8,h.cell 9⟩
theorem pt_frz {w:World}{g T:Nat}{cs:Array Value}(h:Blk w g T cs):w.frozen? ⟨g,0,none⟩=false/\w.frozen? ⟨g,1,none⟩=false/\w.frozen? ⟨g,2,none⟩=false/\w.frozen? ⟨g,3,none⟩=false/\w.frozen? ⟨g,4,none⟩=false/\w.frozen? ⟨g,5,none⟩=false/\w.frozen? ⟨g,6,none⟩=false/\w.frozen? ⟨g,7,none⟩=false/\w.frozen? ⟨g,8,none⟩=false/\w.frozen? ⟨g,9,none⟩=false:=
 ⟨h.frz 0,h.frz 1,h.frz 2,h.frz 3,h.frz 4,h.frz 5,h.frz 6,h.frz 7,h.frz 8,h.frz 9⟩
def zNd:Nd:=⟨0,none,0,[],none,0,[],0,0,0,0,false⟩
theorem setPt_kpp {p:Nat->Prop}{a w:World}{g:Nat}(h:KpP p a w)(hg:p g)(n:Nd)(gr:Int)(rn:Bool):KpP p a (setPt w g n gr rn):=
 ((setRe_kp h (.inl hg) n).set (x:=⟨g,8,none⟩) (.inl hg) _).set (x:=⟨g,9,none⟩) (.inl hg) _
theorem setPt_kp {L:List Nat}{a w:World}{g:Nat}(h:Kp L a w)(hg:g∈L)(n:Nd)(gr:Int)(rn:Bool):Kp L a (setPt w g n gr rn):=by
 have k:KpP (·∈L) a w:=⟨h.os,h.tape,h.output,h.size,h.block⟩;have k2:=setPt_kpp k hg n gr rn;exact⟨k2.os,k2.tape,k2.output,k2.size,k2.block⟩
theorem zNd_treeF (w:World):TreeAt 3 (fun _=>False) w 6 zNd.val:=
 ⟨_,(TreeG.mk (d:=0) zNd [] ⟨by simp[zNd],by simp[zNd],by simp[zNd],by simp[zNd],by simp[zNd],by simp[zNd],by simp[zNd],by simp[zNd],by simp[zNd],by simp[zNd,SetOk]⟩ (SL.nil _) (by simp[zNd]) (by simp[zNd,maxLen]) (fun h=>by simp[zNd] at h) rfl (fun i hi=>by simp[zNd] at hi) (by simp[zNd]) (by simp[zNd])).mono om⟩
theorem zNd_trN (u C:Int)(S:Nat->Prop)(w:World):TrN u S w 6 zNd.val C 34:=
 ⟨_,(TreeG.mk (d:=0) zNd [] ⟨by simp[zNd],by simp[zNd],by simp[zNd],by simp[zNd],by simp[zNd],by simp[zNd],by simp[zNd],by simp[zNd],by simp[zNd],by simp[zNd,SetOk]⟩ (SL.nil _) (by simp[zNd]) (by simp[zNd,maxLen]) (fun h=>by simp[zNd] at h) rfl (fun i hi=>by simp[zNd] at hi) (by simp[zNd]) (by simp[zNd])).mono om,
  .mk _ ⟨rfl,.inl ⟨rfl,rfl,rfl,rfl,rfl,rfl,rfl⟩⟩ (by simp[Tm.of,Tm.kids]),by rw[cnt_eq];simp[Tm.of,Tm.kids]⟩
def RetFu (u:Int)(w:World)(e:Ending)(w':World):Prop:=
 ∃(n:Nd) (gr:Nat) (A:Option Addr) (c:Nat) (ts:List Int),e=.returned (.tuple #[.agg (n.cs++[Value.int .i64 gr,Value.bool false]).toArray,.slice A ts.length c])/\TrN u (fun k=>w.heap.size<=k) w' 6 n.val gr 34/\gr<=4/\IL w' A c ts/\Fr w A/\(∀x∈ts,0<=x/\x<=200)/\ts.length<=12/\Ext w w'
theorem zfits_T (w:World)(LA:Option Addr)(lc:Nat)(ls:List Int)(MA:Option Addr)(mc:Nat)(ms:List Int)(uses:Int)(hu:UsesOk uses)(hl:IL w LA lc ls)(hm:IL w MA mc ms) :
 Calls Tryz.prog 76 #[.slice LA ls.length lc,.slice MA ms.length mc,.int .i64 uses,.int .i64 24,.int .i64 3000] w (RetFu uses w):=by
 have BR:=Blk.new w 63 (ptC zNd 0 false);have ER:=Ext.alloc w (.cells (ptC zNd 0 false) 63);have hll:=hl.len;have hmm:=hm.len;have HM:=lh hm;have HPT:=fun(w':World) (x:Ext w w')=>lh (ypattern_any w' LA lc ls uses 24 hu (hl.ext x) om);clear hl hm hu;go_enter Tryz.func76,Tryz.ntmps76
 go_upto_region 1 with fail
 change Code.wp _ _ _ _ (w.alloc (.cells (ptC zNd 0 false) 63));obtain⟨g10,hg10⟩:∃g,g=w.heap.size:=⟨_,rfl⟩
 rw[<-hg10] at BR ⊢;have hg10l:w.heap.size<=g10:=om;clear hg10;generalize w.alloc (.cells (ptC zNd 0 false) 63)=wa at *;have hgwa:=BR.lt;have hww:=ER.size
 go_upto_region 2 with(go_at_call 151;refine(HPT wa ER).out.mono ?_;rintro e w3 ⟨n,gr,he,ht,hgr0,hgr4,x3⟩;obtain⟨grn,rfl⟩:∃k:Nat,gr=k:=⟨gr.toNat,om⟩;have he2:e=.returned (.agg (ptC n grn false)):=he;subst he2;clear he;unfold ptC)
 change Code.wp _ _ _ _ (w3.alloc (.cells (ptC n grn false) 63));have EP:=Ext.alloc w3 (.cells (ptC n grn false) 63);have BP:=Blk.new w3 63 (ptC n grn false);obtain⟨g12,hg12⟩:∃g,g=w3.heap.size:=⟨_,rfl⟩
 rw[<-hg12] at BP ⊢;have hne:g12≠g10:=by have h:=(BR.ext x3).lt;omega
 clear hg12;generalize w3.alloc (.cells (ptC n grn false) 63)=w4 at *;have HX4:=lh (ER.trans (x3.trans EP));have HT4:=lh ((ht.up (Int.le_refl _) (show(24:Int)+10<=34 by omega)).ext EP);have HBR:=lh (BR.ext (x3.trans EP));have HBP:=lh BP;clear BR ER BP EP ht x3 HPT;have HTX:=lh (rText_any MA mc ms 12 w4 (HM.out.ext HX4.out) om);have htl:=rtext_len ms 12;have HTB:=lh (rtext_bd ms 12);generalize rtext ms 12=ts at *
 go_upto_region 4 with(go_at_call 40;refine HTX.out.mono ?_;rintro e w5 ⟨TA,tc,rfl,hT,x5,hfr⟩)
 have HT5:=lh hT;have htc:=hT.len;have HX5:=lh (HX4.out.trans x5);have HBR5:=lh (HBR.out.ext x5);have HBP5:=lh (HBP.out.ext x5);have HTr5:=lh (HT4.out.ext x5);have HFR:=lh hfr;have hg4:g10<w4.heap.size:=HBR.out.lt;clear hT x5 hfr HTX HBR HBP HT4
 go_loopw [14] (fun v14 wr=>∃x:Int,v14=.int .i64 x/\-1<=x/\x<=ts.length/\Ext w5 wr) (fun v _=>(intOf v+1).toNat)
 case atStart=>exact⟨ts.length,rfl,om,om,Ext.rfl' _⟩
 case round=>
  obtain⟨x,rfl,hx1,hx2,x1⟩:=hrel;by_cases hx0:0<=x
  ·obtain⟨k,rfl⟩:∃k:Nat,x=k:=⟨x.toNat,om⟩;have hk:k<=ts.length:=om
   go_upto_region 8 with fail
   go_loopw [16,15] (fun v16 v15 wq=>∃(i:Nat) (b:Bool),v16=.int .i64 i/\v15=.bool b/\i<=k+1/\Ext w5 wq) (fun v _ _=>k+1-(intOf v).toNat)
   case atStart=>exact⟨0,true,rfl,rfl,om,x1⟩
   case round=>
    clear x1;obtain⟨i,b,rfl,rfl,hi,x1⟩:=hrel;have HBPr:=HBP5.out.ext x1;obtain⟨p0,p1,p2,p3,p4,p5,p6,p7,p8,p9⟩:=pt_cells HBPr;by_cases hik:i<=k/\b=true
    ·obtain⟨hik,rfl⟩:=hik;have hikI:(i:Int)<=(k:Int):=om;have hkc:k<=tc:=om;have elen:(ts.take k).length=k:=by rw[List.length_take];omega
     have HA:=fun(w':World) (x:Ext wr w')=>lh (zall_any 3 om 6 w' n grn false ((HTr5.out.at_.imp (fun _ _ _=>trivial)).ext (x1.trans x)) om TA tc (ts.take k) ((HT5.out.ext (x1.trans x)).pre hk) om i om (-1) 3000 om);rw[elen] at HA;have HAH:=lh HA;have HX1:=lh x1;have q0:=kc0 p0;have q1:=kc0 p1;have q2:=kc0 p2;have q3:=kc0 p3;have q4:=kc0 p4;have q5:=kc0 p5;have q6:=kc0 p6;have q7:=kc0 p7;have q8:=kc0 p8;have q9:=kc0 p9;clear HA elen
     go_upto_region 10 with fail
     clear p0 p1 p2 p3 p4 p5 p6 p7 p8 p9 HBPr;refine Xr.start [] kr ?_;refine Xtk 0 ?_
     iterate 5(refine Xtn ?_)
     refine Xcl 6 fun w7 hE7 hK7 K hKK=>?_;go_simp;refine(HAH.out w7 hE7).out.mono ?_;rintro e w8 ⟨A8,n8,c8,s8,k8,rfl,x8⟩;refine hKK _ _ x8 ?_;clear hKK;refine ptm ?_;refine Xtk 7 ?_
     iterate 6(refine Xtn ?_)
     refine Xdn fun w9 hE9 hK9=>?_;have x9:=HX1.out.trans (hE7.trans (x8.trans hE9));clear q0 q1 q2 q3 q4 q5 q6 q7 q8 q9 hK9 hE9 x8 hK7 hE7
     go_wp2_with fail
     go_roundw
     case rel=>exact⟨i+1,_,by go_num,rfl,om,x9⟩
     case measure=>simp[intOf];omega
    ·by_cases hbt:b=true
     ·subst hbt;have hik2:¬(i:Int)<=(k:Int):=by
       intro h;exact hik (by first|exact⟨om,rfl⟩|omega)
      have hkc:k<=tc:=om;have elen:(ts.take k).length=k:=by rw[List.length_take];omega
      have HTE:=lh (⟨x1,elen⟩:Ext w5 wr/\_);have HBRr:=HBR5.out.ext x1;have HG:=lh HBRr.lt;have HBRH:=lh HBRr;have q0:=fun(w':World) (h:Kp [g10] wr w')=>h.cell p0 (by simp[hne]);have q1:=fun(w':World) (h:Kp [g10] wr w')=>h.cell p1 (by simp[hne]);have q2:=fun(w':World) (h:Kp [g10] wr w')=>h.cell p2 (by simp[hne]);have q3:=fun(w':World) (h:Kp [g10] wr w')=>h.cell p3 (by simp[hne]);have q4:=fun(w':World) (h:Kp [g10] wr w')=>h.cell p4 (by simp[hne]);have q5:=fun(w':World) (h:Kp [g10] wr w')=>h.cell p5 (by simp[hne]);have q6:=fun(w':World) (h:Kp [g10] wr w')=>h.cell p6 (by simp[hne]);have q7:=fun(w':World) (h:Kp [g10] wr w')=>h.cell p7 (by simp[hne]);have q8:=fun(w':World) (h:Kp [g10] wr w')=>h.cell p8 (by simp[hne]);have q9:=fun(w':World) (h:Kp [g10] wr w')=>h.cell p9 (by simp[hne]);clear elen x1
      go_upto_region 13 with fail
      clear p0 p1 p2 p3 p4 p5 p6 p7 p8 p9 HBPr HBRr;refine Xr.start [g10] kr ?_;refine Xtk 0 ?_
      iterate 3(refine Xtn ?_)
      refine Xsp 4 fun w7 hE7 hK7 K hKK=>?_;have b7:=HBRH.out.ext hE7;obtain⟨s0,s1,s2,s3,s4,s5,s6,s7,s8,s9⟩:=pt_cells b7;obtain⟨f0,f1,f2,f3,f4,f5,f6,f7,f8,f9⟩:=pt_frz b7;simp only[zNd,List.length_nil] at s0 s1 s2 s3 s4 s5 s6 s7;go_simp;change K _ (setPt w7 g10 n grn false);refine hKK _ _ (setPt_kpp (KpP.refl _ _) (.inl si) _ _ _) (setPt_kp hK7 si _ _ _) ?_;clear hKK;refine ptm ?_;refine Xtk 5 ?_;refine Xdn fun w9 hE9 hK9=>?_;have b9:=(setPt_blk b7 n grn false).ext hE9;have x9:=(setPt_ext (HX5.out.trans (HTE.out.1.trans hE7)) hg10l n grn false).trans hE9;have kk:KpP (·=g10) w5 w9:=((KpP.of_ext (HTE.out.1.trans hE7)).trans (setPt_kpp (p:=(·=g10)) (KpP.refl _ w7) rfl n grn false)).trans (KpP.of_ext hE9);clear s0 s1 s2 s3 s4 s5 s6 s7 s8 s9 f0 f1 f2 f3 f4 f5 f6 f7 f8 f9 hE9 hK9 hK7 b7 hE7 q0 q1 q2 q3 q4 q5 q6 q7 q8 q9;obtain⟨r0,r1,r2,r3,r4,r5,r6,r7,r8,r9⟩:=pt_cells b9
      go_wp2_with fail
      refine bodyPost_ret (v:=.tuple #[.agg (ptC n grn false),.slice TA k tc]) (by simp[results,Tryz.results76,go_sem,r0,r1,r2,r3,r4,r5,r6,r7,r8,r9,ptC]) rfl ⟨n,grn,TA,tc,ts.take k,by rw[HTE.out.2];rfl,?_,om,?_,HFR.out.mono HX4.out,fun x hx=>HTB.out x (List.mem_of_mem_take hx),by rw[HTE.out.2];omega,x9⟩
      ·exact(HTr5.out.kp kk (fun i hi hs=>by have e:i=g10:=hi;subst e;exact absurd hs (Nat.not_le_of_lt hgwa))).imp (fun i h _=>Nat.le_trans hww h)
      ·exact(HT5.out.kpG kk (fun b hb e=>by have e2:b=g10:=e;have:=HFR.out b hb;omega)).pre hk
     ·have hbf:b=false:=by simpa using hbt
      subst hbf;have ewk:IntKind.i64.wrap ((k:Int)-1)=(k:Int)-1:=wj
      go_wp2_with fail
      all_goals exact⟨⟨(k:Int)-1,rfl,om,om,x1⟩,by first|(simp[intOf];done)|(simp[intOf];omega)⟩
  ·have HBRr:=HBR5.out.ext x1;have HBPr:=HBP5.out.ext x1;have p8:=(pt_cells HBPr).2.2.2.2.2.2.2.2.1;obtain⟨s0,s1,s2,s3,s4,s5,s6,s7,s8,s9⟩:=pt_cells HBRr;obtain⟨f0,f1,f2,f3,f4,f5,f6,f7,f8,f9⟩:=pt_frz HBRr;simp only[zNd,List.length_nil] at s0 s1 s2 s3 s4 s5 s6 s7
   go_wp2_with fail
   change bodyPost _ _ _ _ _ (setPt wr g10 zNd grn false);have b9:=setPt_blk HBRr zNd grn false;have x9:=setPt_ext (HX5.out.trans x1) hg10l zNd grn false;generalize setPt wr g10 zNd grn false=w9 at *;obtain⟨r0,r1,r2,r3,r4,r5,r6,r7,r8,r9⟩:=pt_cells b9;refine bodyPost_ret (v:=.tuple #[.agg (ptC zNd grn false),.slice none 0 0]) (by simp[results,Tryz.results76,go_sem,r0,r1,r2,r3,r4,r5,r6,r7,r8,r9,ptC]) rfl ⟨zNd,grn,none,0,[],rfl,zNd_trN _ _ _ _,om,IL.nil _,Fr.nil _,by simp,by simp,x9⟩
theorem GdT.bare {C:Int}{T:Tm}(h:GdT 0 C T):GdT 64 C T:=by
 induction h with
 | mk T h _ ih=>
  refine .mk T ⟨h.neg,?_⟩ ih;rcases h.num with h|h|h|h|h|h
  ·exact .inl h
  ·exact .inr (.inl h)
  ·exact .inr (.inr (.inl h))
  ·exact .inr (.inr (.inr (.inl h)))
  ·exact absurd dK h.2.1
  ·exact absurd dK h.2.1
def RetPl (w:World)(e:Ending)(w':World):Prop:=
 ∃(n:Nd) (gr:Nat) (A:Option Addr) (c:Nat) (ts:List Int),e=.returned (.tuple #[.agg (n.cs++[Value.int .i64 gr,Value.bool false]).toArray,.slice A ts.length c])/\(∃T,TreeG 3 (fun k=>w.heap.size<=k) w' 6 n.val T/\GdT 64 gr T/\(cnt T:Int)<=34/\comp T []=true)/\gr<=4/\IL w' A c ts/\Fr w A/\(∀x∈ts,0<=x/\x<=200)/\ts.length<=12/\Ext w w'
theorem xplain_F (w:World)(LA:Option Addr)(lc:Nat)(ls:List Int)(MA:Option Addr)(mc:Nat)(ms:List Int)(hl:IL w LA lc ls)(hm:IL w MA mc ms) :
 Calls Tryz.prog 26 #[.slice LA ls.length lc,.slice MA ms.length mc,.bool false] w (RetPl w):=by
 have BR:=Blk.new w 63 (ptC zNd 0 false);have ER:=Ext.alloc w (.cells (ptC zNd 0 false) 63);have hll:=hl.len;have hmm:=hm.len;have HFI:=fun(w':World) (x:Ext w w') (uses:Int) (hu:UsesOk uses)=>lh (zfits_T w' LA lc ls MA mc ms uses hu (hl.ext x) (hm.ext x));have HFH:=lh HFI;clear hl hm HFI;have hor:Go.bits BinOp.or IntKind.i64 64 16=80:=by decide +kernel
 go_enter Tryz.func26,Tryz.ntmps26
 go_upto_region 1 with fail
 change Code.wp _ _ _ _ (w.alloc (.cells (ptC zNd 0 false) 63));obtain⟨g6,hg6⟩:∃g,g=w.heap.size:=⟨_,rfl⟩
 rw[<-hg6] at BR ⊢;have hg6l:w.heap.size<=g6:=om;clear hg6;generalize w.alloc (.cells (ptC zNd 0 false) 63)=wa at *;have hg6a:=BR.lt;have HWA:=lh ER;have HF1:=lh (HFH.out wa ER 64 usesOk_64).out
 go_upto_region 5 with(go_at_call 76;refine HF1.out.mono ?_;rintro e w3 ⟨n,gr,TA,tc,ts,he,ht,hgr,hT,hfr,htb,htl,x3⟩;have he2:e=.returned (.tuple #[.agg (ptC n gr false),.slice TA ts.length tc]):=he;subst he2;clear he;unfold ptC)
 change Code.wp _ _ _ _ (w3.alloc (.cells (ptC n gr false) 63));have EP:=Ext.alloc w3 (.cells (ptC n gr false) 63);have BP:=Blk.new w3 63 (ptC n gr false);obtain⟨g9,hg9⟩:∃g,g=w3.heap.size:=⟨_,rfl⟩
 rw[<-hg9] at BP ⊢;clear hg9;generalize w3.alloc (.cells (ptC n gr false) 63)=w4 at *;have HX4:=lh (ER.trans (x3.trans EP));obtain⟨T,ht1,ht2,ht3⟩:=ht;have HT4:=lh (ht1.ext EP);have HGD:=lh (And.intro ht2 ht3);have HTX:=lh (hT.ext EP);have HTB:=lh htb;have htc:=hT.len;have HFR:=lh hfr;have hg4:g6<w4.heap.size:=Nat.lt_of_lt_of_le hg6a (x3.trans EP).size;have HBR:=lh (BR.ext (x3.trans EP));have HCP:=lh (xcompiles_G 64 gr _ 6 w4 n.val T HT4.out HGD.out.1 none 0 [] (IL.nil _) si);unfold Nd.val at HCP;obtain⟨p0,p1,p2,p3,p4,p5,p6,p7,p8,p9⟩:=pt_cells BP;clear BR ER EP ht1 ht2 ht3 x3 hT HF1 htb
 go_upto_region 6 with(go_at_call 77;refine HCP.out.mono ?_;rintro e w5 ⟨rfl,x5⟩;obtain⟨b5,hb5⟩:∃b,b=comp T []:=⟨_,rfl⟩;rw[<-hb5];have HB5:=lh hb5.symm;clear hb5;have HX5:=lh x5;have p0':=x5.cell p0;have p1':=x5.cell p1;have p2':=x5.cell p2;have p3':=x5.cell p3;have p4':=x5.cell p4;have p5':=x5.cell p5;have p6':=x5.cell p6;have p7':=x5.cell p7;have p8':=x5.cell p8;have p9':=x5.cell p9;have BR5:=HBR.out.ext x5;obtain⟨s0,s1,s2,s3,s4,s5,s6,s7,s8,s9⟩:=pt_cells BR5;obtain⟨f0,f1,f2,f3,f4,f5,f6,f7,f8,f9⟩:=pt_frz BR5;simp only[zNd,List.length_nil] at s0 s1 s2 s3 s4 s5 s6 s7;cases b5)
 ·go_wp2_with (go_at_call 76;refine(HFH.out _ (HX4.out.trans HX5.out) 0 usesOk_0).out.mono ?_;rintro e w7 ⟨n2,gr2,TA2,tc2,ts2,he,ht2,hgr2,hT2,hfr2,htb2,htl2,x7⟩;have he2:e=.returned (.tuple #[.agg (ptC n2 gr2 false),.slice TA2 ts2.length tc2]):=he;subst he2;clear he;unfold ptC;have BR7:=HBR.out.ext (HX5.out.trans x7);obtain⟨s0,s1,s2,s3,s4,s5,s6,s7,s8,s9⟩:=pt_cells BR7;obtain⟨f0,f1,f2,f3,f4,f5,f6,f7,f8,f9⟩:=pt_frz BR7;simp only[zNd,List.length_nil] at s0 s1 s2 s3 s4 s5 s6 s7)
  change bodyPost _ _ _ _ _ (setPt w7 g6 n2 gr2 false);have b9:=setPt_blk BR7 n2 gr2 false;have x9:=setPt_ext (HX4.out.trans (HX5.out.trans x7)) hg6l n2 gr2 false;have kk:KpP (·=g6) w7 (setPt w7 g6 n2 gr2 false):=setPt_kpp (p:=(·=g6)) (KpP.refl _ _) rfl _ _ _;generalize setPt w7 g6 n2 gr2 false=w9 at *;obtain⟨r0,r1,r2,r3,r4,r5,r6,r7,r8,r9⟩:=pt_cells b9;refine bodyPost_ret (v:=.tuple #[.agg (ptC n2 gr2 false),.slice TA2 ts2.length tc2]) (by simp[results,Tryz.results26,go_sem,r0,r1,r2,r3,r4,r5,r6,r7,r8,r9,ptC]) rfl ⟨n2,gr2,TA2,tc2,ts2,rfl,?_,om,?_,hfr2.mono (HX4.out.trans HX5.out),htb2,om,x9⟩
  ·obtain⟨T2,g1,g2,g3⟩:=ht2;refine⟨T2,?_,g2.bare,g3,comp_bare dK g2 []⟩;exact(g1.kp kk (fun i hi hs=>by have e:i=g6:=hi;subst e;exact absurd hs (Nat.not_le_of_lt (Nat.lt_of_lt_of_le hg4 HX5.out.size)))).imp (fun i h _=>Nat.le_trans (Nat.le_trans HX4.out.size HX5.out.size) h)
  ·exact hT2.kpG kk (fun b hb e=>by have e2:b=g6:=e;have h1:=hfr2 b hb;have h2:=HX5.out.size;omega)
 ·skip
  change bodyPost _ _ _ _ _ (setPt w5 g6 n gr false);have b9:=setPt_blk BR5 n gr false;have x9:=setPt_ext (HX4.out.trans HX5.out) hg6l n gr false;have kk:KpP (·=g6) w5 (setPt w5 g6 n gr false):=setPt_kpp (p:=(·=g6)) (KpP.refl _ _) rfl _ _ _;generalize setPt w5 g6 n gr false=w9 at *;obtain⟨r0,r1,r2,r3,r4,r5,r6,r7,r8,r9⟩:=pt_cells b9;refine bodyPost_ret (v:=.tuple #[.agg (ptC n gr false),.slice TA ts.length tc]) (by simp[results,Tryz.results26,go_sem,r0,r1,r2,r3,r4,r5,r6,r7,r8,r9,ptC]) rfl ⟨n,gr,TA,tc,ts,rfl,?_,om,?_,HFR.out.mono HWA.out,HTB.out,om,x9⟩
  ·refine⟨T,?_,HGD.out.1,HGD.out.2,HB5.out⟩;exact((HT4.out.ext HX5.out).kp kk (fun i hi hs=>by have e:i=g6:=hi;subst e;exact absurd hs (Nat.not_le_of_lt hg6a))).imp (fun i h _=>Nat.le_trans HWA.out.size h)
  ·exact(HTX.out.ext HX5.out).kpG kk (fun b hb e=>by have e2:b=g6:=e;have h1:=HFR.out b hb;omega)
theorem infoPIo:(Tryz.prog.info? 129).map (fun i=>(i.zero,i.size,i.bytes))=some (some (.agg #[.int .i64 0,.int .i64 0,.int .i64 0,.int .i64 0,.slice none 0 0]),5,56):=by kernel_rfl
def RetOw (hs:List Hin)(caps:Int)(rn:Bool)(w:World)(e:Ending)(w':World):Prop:=
 ∃(A:Option Addr) (c:Nat),e=.returned (.agg #[.slice A hs.length c,.int .i64 caps,.bool rn])/\PL w' A c hs/\Ext w w'
theorem sOwn_any (w:World)(A:Option Addr)(c:Nat)(hs:List Hin)(caps:Int)(rn:Bool)(hP:PL w A c hs)(hl:hs.length<=8192) :
 Calls Tryz.prog 15 #[.agg #[.slice A hs.length c,.int .i64 caps,.bool rn]] w (RetOw hs caps rn w):=by
 obtain⟨B1,B2,E0⟩:=alloc2 w 25 #[.slice A hs.length c,.int .i64 caps,.bool rn] 35 #[.slice none 0 0,.int .i64 0,.bool false];obtain⟨iP,jP0,jP1,jP2,jP3⟩:=info_parts infoPIo;have hlen:=hP.len;have HP:=lh hP;clear hP;go_enter Tryz.func15,Tryz.ntmps15
 go_upto_region 1 with fail
 obtain⟨g1,hg1⟩:∃g,g=w.heap.size:=⟨_,rfl⟩;obtain⟨g2,hg2e⟩:∃g,g=w.heap.size+1:=⟨_,rfl⟩
 rw[<-hg2e] at B2 ⊢
 rw[<-hg1] at B1 ⊢;have hg2:w.heap.size<=g2:=om;clear hg1 hg2e;generalize ((w.alloc (.cells #[.slice A hs.length c,.int .i64 caps,.bool rn] 25)).alloc (.cells #[.slice none 0 0,.int .i64 0,.bool false] 35))=wa at *;obtain⟨z0,z1,z2,_⟩:=B1.c3;have EB:=Ext.alloc wa (.cells #[.slice none 0 0,.int .i64 caps,.bool rn] 35);have BB:=Blk.new wa 35 #[.slice none 0 0,.int .i64 caps,.bool rn]
 go_upto_region 3 with fail
 obtain⟨g3,hg3⟩:∃g,g=wa.heap.size:=⟨_,rfl⟩
 rw[<-hg3] at BB ⊢;have hg3l:wa.heap.size<=g3:=om;clear hg3;generalize wa.alloc (.cells #[.slice none 0 0,.int .i64 caps,.bool rn] 35)=wb at *;have HX0:=lh E0;have HB2:=lh B2;have HB1:=lh B1;have HBB:=lh BB;clear E0 B1 B2 BB z0 z1 z2
 go_loopw [4] (fun v4 wr=>∃(i:Nat) (A5:Option Addr) (c5:Nat),v4=.int .i64 i/\i<=hs.length/\Hid (Blk wr g3 35 #[.slice A5 i c5,.int .i64 caps,.bool rn])/\Hid (OwnS wr wa.heap.size 129 5 A5 i c5 (flatN (hs.take i)))/\Ext wa wr) (fun v _=>hs.length-(intOf v).toNat)
 case atStart=>exact⟨0,none,0,rfl,om,HBB,lh (by simpa[flatN] using OwnS.nil _ _ _ _),EB⟩
 case round=>
  obtain⟨i,A5,c5,rfl,hi,HB3,HO,x1⟩:=hrel;have hcc:=OwnS.caps HO.out;have y0:wr.cell? ⟨g1,0,none⟩=some (.slice A hs.length c):=(HB1.out.ext x1).cell 0;by_cases hlt:i<hs.length
  ·have hiI:(i:Int)<(hs.length:Int):=om;obtain⟨b,o,hA,k0,k1,k2,k3,k4⟩:=(HP.out.ext (HX0.out.trans x1)).get hlt;have HA:=lh hA;rw[hA] at y0;clear hA;obtain⟨h,hh⟩:∃h,h=hs[i]:=⟨_,rfl⟩
   rw[<-hh] at k0 k1 k2 k3 k4;have HH:Hid (hs.take (i+1)=hs.take i++[h]):=lh (by rw[hh,List.take_succ_eq_append_getElem hlt]);clear hh;have EI:=Ext.alloc wr (.cells #[.int .i64 h.op,.int .i64 h.x,.int .i64 h.y,.int .i64 h.n,.slice h.A h.l.length h.c] 128);have BI:=Blk.new wr 128 #[.int .i64 h.op,.int .i64 h.x,.int .i64 h.y,.int .i64 h.n,.slice h.A h.l.length h.c]
   go_upto_region 6 with fail
   obtain⟨gI,hgI⟩:∃g,g=wr.heap.size:=⟨_,rfl⟩
   rw[<-hgI] at BI ⊢;clear hgI;generalize wr.alloc (.cells #[.int .i64 h.op,.int .i64 h.x,.int .i64 h.y,.int .i64 h.n,.slice h.A h.l.length h.c] 128)=wi at *;obtain⟨u0,u1,u2,u3,u4⟩:=in_cells (n:=h) BI;have HB3i:=lh (HB3.out.ext EI);have HOi:=lh (OwnS.ext HO.out EI);have HNE:=lh (own_blk HOi.out HB3i.out de);have s0:wi.cell? ⟨g3,0,none⟩=some (.slice A5 i c5):=HB3i.out.cell 0;have HXi:=lh (x1.trans EI);clear k0 k1 k2 k3 k4 BI y0 EI x1
   go_upto_region 4 with(at_builtin;refine wpList_app _ rfl _ _ _ rfl wa.heap.size 129 iP _ 5 56 Tryz.underlying33 jP0 jP1 jP2 jP3 rfl om A5 i c5 (flatN (hs.take i)) rfl (OwnS.ext HOi.out (Ext.alloc _ _)) _ 1 1 (flatN [h]) rfl rfl (hin_blk (Blk.new _ _ _)) (flatN_one _) um om (Nat.le_trans HXi.out.size (Ext.alloc _ _).size) ?_;intro A8 c8 w8 ho8 hg8 hat8;have hb8:=(KpP.of_grown hg8).blk (HB3i.out.alloc _) HNE.out;have HB8:=lh hb8;have HO8:=lh ho8;have HX8:=lh (((HXi.out.trans (Ext.alloc _ _)).grown hg8 (OwnS.row HOi.out)));have s8:w8.cell? ⟨g3,0,none⟩=some (.slice A5 i c5):=hb8.cell 0;have sf8:=hb8.frz 0;clear ho8 hg8 hat8 hb8)
   have B9:Blk (w8.setCell ⟨g3,0,none⟩ (.slice A8 (i+1) c8)) g3 35 #[.slice A8 (i+1) c8,.int .i64 caps,.bool rn]:=by simpa using HB8.out.set 0 (.slice A8 (i+1) c8)
   have O9:=OwnS.far HO8.out (p:=⟨g3,0,none⟩) (own_blk HO8.out HB8.out de) (.slice A8 (i+1) c8);have X9:=HX8.out.setNew (p:=⟨g3,0,none⟩) hg3l (.slice A8 (i+1) c8)
   rw[<-flatN_append,<-HH.out] at O9;clear s8 sf8 HB8 HO8 HX8 s0 u0 u1 u2 u3 u4;generalize w8.setCell ⟨g3,0,none⟩ (.slice A8 (i+1) c8)=w9 at *;have B9:=lh B9;have O9:=lh O9
   go_wp2_with fail
   go_roundw
   case rel=>exact⟨i+1,A8,c8,by go_num,om,B9,O9,X9⟩
   case measure=>simp[intOf];omega
  ·have hiI:¬(i:Int)<(hs.length:Int):=om;have e:i=hs.length:=om;subst e;have HO2:=lh HO.out;rw[List.take_length] at HO2;obtain⟨s0,s1,s2,_⟩:=HB3.out.c3;have B2r:=HB2.out.ext x1;obtain⟨y0,y1,y2,f0,f1,f2,_⟩:=B2r.c3
   go_wp2_with fail
   have b9:=setGp_blk B2r A5 hs.length c5 caps rn;have x9:=setGp_ext (HX0.out.trans x1) hg2 A5 hs.length c5 caps rn;have o9:=OwnS.kp HO2.out (setGp_kpp (p:=(·=g2)) (KpP.refl _ wr) rfl A5 hs.length c5 caps rn) (fun b hb e=>by have e2:b=g2:=e;subst e2;exact own_blk HO2.out B2r de hb);change bodyPost _ _ _ _ _ (setGp wr g2 A5 hs.length c5 caps rn);generalize setGp wr g2 A5 hs.length c5 caps rn=w9 at *;obtain⟨r0,r1,r2,_⟩:=b9.c3;refine bodyPost_ret (v:=.agg #[.slice A5 hs.length c5,.int .i64 caps,.bool rn]) (by simp[results,Tryz.results36,go_sem,r0,r1,r2]) rfl ⟨A5,c5,rfl,PL.of_own o9 HP.out.rng (fun z hz=>(HP.out.sl z hz).ext x9),x9⟩
end
end Go.Proofs.YtmgpefenkilffaaGreat
