/- Texts of this proof: K1 J2 K14. -/
import Derived.Test.YtmocoldobnimfaaGreatMS05
import Derived.Test.YtmocoldobnimfaaGreatMS06
import Derived.Deep.DrawnRows
set_option linter.all false
set_option maxRecDepth 100000
set_option maxHeartbeats 16000000
namespace Go.Proofs.YtmocoldobnimfaaGreat
section
open Go.RowKit
attribute [local go_sem ↓] Go.wp_at_zero Go.wp_at_succ
theorem Lj (A:Option Addr)(c:Nat)(xs:List Int)(n:Int)(w:World)(ha:IL w A c xs) :
 Calls Tryz.prog 108 #[.slice A xs.length c,.int .i64 n] w (XP (.bool (decide (n∈xs))) w):=by
 obtain⟨a1,a2⟩:=ha.len;go_enter Tryz.func108,Tryz.ntmps108
 go_wp2
 go_loopw [5] (fun i wr=>∃k:Nat,k<=xs.length/\i=.int .i64 k/\Hid (n∉xs.take k)/\∃m,wr=w.drewN m) (fun i _=>xs.length-(intOf i).toNat)
 case atStart=>exact⟨0,Nat.zero_le _,rfl,lh si,0,rfl⟩
 case round=>
  obtain⟨k,hk,rfl,ht,m,rfl⟩:=hrel;by_cases hlt:k<xs.length
  ·obtain⟨p1,o1,rfl,g1⟩:=ha.get hlt;have hlt2:(k:Int)<xs.length:=om;by_cases he:xs[k]=n
   ·have he':(xs[k] == n)=true:=by simp[he]
    have HN:=lh (show decide (n∈xs)=true from decide_eq_true (he▸List.getElem_mem hlt));clear he
    go_wp2_with (go_quiet (fail))
    go_ret
    exact⟨by rw[HN.out];rfl,_,rfl⟩
   ·have he':(xs[k] == n)=false:=by simp[he]
    have HT:=lh (show n∉xs.take (k+1) by
     rw[List.take_succ_eq_append_getElem hlt];simp only[List.mem_append,List.mem_singleton,not_or];exact⟨ht.out,fun e=>he e.symm⟩)
    clear he
    go_wp2_with (go_quiet (fail))
    go_roundw
    case rel=>exact⟨k+1,om,by go_num,HT,_,rfl⟩
    case measure=>simp[intOf];omega
  ·have HN:=lh (show decide (n∈xs)=false from decide_eq_false (by
    have:=ht.out
    rwa [List.take_of_length_le om] at this))
   go_wp2
   go_ret
   exact⟨by rw[HN.out];rfl,_,rfl⟩
def QJ (l:List Nat):List Int:=l.map (fun(n:Nat)=>(n:Int))
theorem WY (l:List Nat):(QJ l).length=l.length:=by simp[QJ]
theorem qX (l:List Nat)(n:Nat):QJ (l++[n])=QJ l++[(n:Int)]:=by simp[QJ]
theorem CR {l:List Nat}{n:Nat}:(n:Int)∈QJ l<->n∈l:=by
 unfold QJ;rw[List.mem_map];constructor
 ·rintro⟨m,hm,he⟩;have:m=n:=om;subst this;exact hm
 ·exact fun h=>⟨n,h,rfl⟩
theorem vz {l:List Nat}(h:∀i∈l,i<1000000):∀x∈QJ l,I64 x:=by
 intro x hx;obtain⟨n,hn,rfl⟩:=List.mem_map.1 hx;have:=h n hn;unfold I64;omega
def QW (hs:List Hin):List Ins:=hs.map Hin.ins
theorem Qw (hs:List Hin):(QW hs).length=hs.length:=by simp[QW]
theorem qG {hs:List Hin}{k:Nat}(hk:k<hs.length):(QW hs)[k]? = some hs[k].ins:=by simp[QW,hk]
theorem WM {hs:List Hin}{k:Nat}(hk:k<(QW hs).length):(QW hs)[k]=(hs[k]'(by rw[Qw] at hk;exact hk)).ins:=by simp[QW]
theorem dM {G:List Ins}{f:Nat}{l seen:List Nat}{pc:Nat}{i:Ins}(hm:pc∉seen)(hg:G[pc]? = some i)(h:i.op=2):WZ G (f+1) (l,seen) pc=WZ G f (WZ G f (l,seen++[pc]) i.x.toNat) i.y.toNat:=by
 rw[WZ];simp only[hm,if_false,hg,h,if_true]
theorem dN {G:List Ins}{f:Nat}{l seen:List Nat}{pc:Nat}{i:Ins}(hm:pc∉seen)(hg:G[pc]? = some i)(h:i.op=3):WZ G (f+1) (l,seen) pc=WZ G f (l,seen++[pc]) i.x.toNat:=by
 rw[WZ];simp only[hm,if_false,hg,h];simp
theorem dO {G:List Ins}{f:Nat}{l seen:List Nat}{pc:Nat}{i:Ins}(hm:pc∉seen)(hg:G[pc]? = some i)(h:i.op=4):WZ G (f+1) (l,seen) pc=WZ G f (l,seen++[pc]) (pc+1):=by
 rw[WZ];simp only[hm,if_false,hg,h];simp
theorem dP {G:List Ins}{f:Nat}{l seen:List Nat}{pc:Nat}{i:Ins}(hm:pc∉seen)(hg:G[pc]? = some i)(h2:i.op≠2)(h3:i.op≠3)(h4:i.op≠4):WZ G (f+1) (l,seen) pc=(l++[pc],seen++[pc]):=by
 rw[WZ];simp only[hm,if_false,hg,h2,h3,h4]
theorem KpP.chain {p q:Nat->Prop}{a b c:World}(h:KpP p a b)(k:KpP q b c)(hq:∀i,q i->p i\/a.heap.size<=i):KpP p a c:=
 ⟨k.os.trans h.os,k.tape.trans h.tape,k.output.trans h.output,Nat.le_trans h.size k.size,fun i hi hn=>(k.block i (Nat.lt_of_lt_of_le hi h.size) (fun hm=>by
  rcases hq i hm with h1|h1
  ·exact hn h1
  ·omega)).trans (h.block i hi hn)⟩
theorem Ext.thenP {p:Nat->Prop}{a b c:World}(h:Ext a b)(k:KpP p b c)(hp:∀i,p i->a.heap.size<=i):Ext a c:=
 ⟨k.os.trans h.os,k.tape.trans h.tape,k.output.trans h.output,Nat.le_trans h.size k.size,fun i hi=>(k.block i (Nat.lt_of_lt_of_le hi h.size) (fun hm=>by have:=hp i hm;omega)).trans (h.block i hi)⟩
def two (A B:Option Addr)(b:Nat):Prop:=A.map (·.block)=some b\/B.map (·.block)=some b
structure lG (a0 w:World)(A0 B0:Option Addr)(L1 L2:List Int)(A:Option Addr)(c:Nat)(B:Option Addr)(d:Nat)(w':World):Prop where
 l:WO w' a0.heap.size 3 A c L1
 s:WO w' a0.heap.size 3 B d L2
 ap:∀b,A.map (·.block)=some b->B.map (·.block)≠some b
 kp:KpP (two A0 B0) w w'
 na:∀b,A.map (·.block)=some b->A0.map (·.block)=some b\/w.heap.size<=b
 nb:∀b,B.map (·.block)=some b->B0.map (·.block)=some b\/w.heap.size<=b
def dR (a0 w:World)(A0 B0:Option Addr)(L1 L2:List Int)(e:Ending)(w':World):Prop:=
 ∃(A:Option Addr) (c:Nat) (B:Option Addr) (d:Nat),e=.returned (.tuple #[.slice A L1.length c,.slice B L2.length d])/\lG a0 w A0 B0 L1 L2 A c B d w'
theorem Bz {w:World}{g T:Nat}{a b c d e:Value}(h:Blk w g T #[a,b,c,d,e]):w.cell? ⟨g,0,none⟩=some a/\w.cell? ⟨g,1,none⟩=some b/\w.cell? ⟨g,2,none⟩=some c/\w.cell? ⟨g,3,none⟩=some d/\w.cell? ⟨g,4,none⟩=some e/\g<w.heap.size:=
 ⟨h.cell 0,h.cell 1,h.cell 2,h.cell 3,h.cell 4,h.lt⟩
def QN (gA:Option Addr)(n gc:Nat)(caps:Int)(runes:Bool):Value:=.agg #[.slice gA n gc,.int .i64 caps,.bool runes]
theorem YF:(Tryz.prog.info? 3).map (fun i=>(i.zero,i.size,i.bytes))=some (some (.int .i64 0),1,8):=by kernel_rfl
theorem dS {P:Prop} (h:P:=by
 subst h0;have HR:=(HEE de de de).out;have HLS:=lh (qX l pc)
 rw[<-hL1.out] at HLS;have HR1:=lh (show R1=L1++[(pc:Int)] by rw[hR1.out,HR];exact HLS.out);have HR2:=lh (show R2=L3 by rw[hR2.out,HR];exact hL3.out.symm);clear HR HE2 HE3 HE4 HEE IH hR1 hR2 HLS
 go_wp2_with ((at_builtin;refine KN rfl _ _ _ rfl 3 YF Tryz.underlying22 a0 X3 (pc:Int) rfl A c L1 rfl hA3.out rfl HLA.out R1 HR1.out ?_;intro A4 c4 w4 hoA x4 hgA hatA))
 go_ret2
 rw[HR2.out];have kk:=KpP.of_grown hgA;refine⟨A4,c4,B2,d2,rfl,hoA,QQ.kp hB3.out kk (fun b hb e=>hAB2.out b e hb),fun b hb e=>?_,k03.chain kk (fun b hb=>(hb2w.out b (.inl hb)).2.2),fun b hb=>?_,fun b hb=>?_⟩
 ·rcases hatA with h|h
  ·rw[h] at hb;exact hAB2.out b hb e
  ·rw[h] at hb;injection hb with hb
   have:=(QQ.blt hB3.out e).1;omega
 ·rcases hatA with h|h
  ·rw[h] at hb;exact .inl hb
  ·rw[h] at hb;injection hb with hb
   exact .inr om
 ·rcases(hb2w.out b (.inr hb)).2.2 with h2|h2
  ·rcases h2 with h2|h2
   ·exact absurd hb (hAB2.out b h2)
   ·exact .inl h2
  ·exact .inr h2):P:=h
theorem dU {P:Prop} (h:P:=by
 rcases(hb2w.out b (.inr h)).2.2 with h2|h2
 ·rcases h2 with h2|h2
  ·exact absurd h (hAB2.out b h2)
  ·exact .inl h2
 ·exact .inr h2):P:=h
theorem eQ {P:Prop} (h:P:=by
 go_wp2_with fail
 refine HC.out.mono ?_;rintro e w4 ⟨A4,c4,B4,d4,rfl,H4⟩
 go_wp2_with fail
 go_ret2
 refine⟨A4,c4,B4,d4,rfl,H4.l,H4.s,H4.ap,k03.chain H4.kp (fun b hb=>(hb2w.out b hb).2.2),fun b hb=>?_,fun b hb=>?_⟩
 ·rcases H4.na b hb with h|h
  ·exact .inl h
  ·exact .inr om
 ·rcases H4.nb b hb with h|h
  ·exact dU
  ·exact .inr om):P:=h
theorem CS (a0:World)(gA:Option Addr)(gc:Nat)(hs:List Hin)(runes:Bool)(caps:Int)(hG:GOk runes caps (QW hs))(hP:PL a0 gA gc hs):∀(f:Nat) (l seen:List Nat) (pc:Nat) (w:World) (A B:Option Addr) (c d:Nat),
 Zy hs.length seen->hs.length<f+seen.length->pc<hs.length->l.length<=seen.length->WO w a0.heap.size 3 A c (QJ l)->WO w a0.heap.size 3 B d (QJ seen)->(∀b,A.map (·.block)=some b->B.map (·.block)≠some b)->(∀i∈seen,i<1000000)->Ext a0 w->
 Calls Tryz.prog 89 #[QN gA hs.length gc caps runes,.slice A (QJ l).length c,.slice B (QJ seen).length d,.int .i64 pc] w (dR a0 w A B (QJ (WZ (QW hs) f (l,seen) pc).1) (QJ (WZ (QW hs) f (l,seen) pc).2))
 | 0,l,seen,pc,w,A,B,c,d,hS,hf,_,_,_,_,_,_,_=>by have:=hS.len;omega
 | f+1,l,seen,pc,w,A,B,c,d,hS,hf,hpc,hls,hA,hB,hAB,hsm,x0=>by
  have hlen:=hG.len;rw[Qw] at hlen;have hseen:=hS.len;have hcl:=hP.len;have hB':=IL.of_own hB (vz hsm);have bG:=Blk.new w 33 #[.slice gA hs.length gc,.int .i64 caps,.bool runes];have eG:=Ext.alloc w (.cells #[.slice gA hs.length gc,.int .i64 caps,.bool runes] 33);have HH:=lh (Lj B d (QJ seen) pc _ (hB'.ext eG));by_cases hm:pc∈seen
  ·rw[decide_eq_true (CR.2 hm)] at HH;have HR:=lh (show WZ (QW hs) (f+1) (l,seen) pc=(l,seen) by rw[WZ];simp[hm]);rw[HR.out];unfold QN;generalize QJ l=L1 at *;generalize QJ seen=L2 at *;clear hf hls hS hG hP hB' hsm hseen hm;replace hAB:=lh hAB;clear hpc;go_enter Tryz.func89,Tryz.ntmps89
   go_wp2_with fail
   refine HH.out.mono ?_;rintro e w1 hq;obtain⟨rfl,x1⟩:=hq.v;clear hq HH
   go_wp2_with fail
   go_ret2
   exact⟨A,c,B,d,rfl,QQ.ext hA (eG.trans x1),QQ.ext hB (eG.trans x1),hAB.out,KpP.of_ext (eG.trans x1),fun b h=>.inl h,fun b h=>.inl h⟩
  ·rw[decide_eq_false (fun h=>hm (CR.1 h))] at HH;have hop:hs[pc].op=0\/hs[pc].op=1\/hs[pc].op=2\/hs[pc].op=3\/hs[pc].op=4:=by
    have:=hG.op (k:=pc) (by rw[Qw];exact hpc)
    rwa [WM] at this
   have hjx:hs[pc].op=2\/hs[pc].op=3->∃x:Nat,hs[pc].x=x/\x<hs.length:=fun h=>by
    have:=hG.jump (k:=pc) (by rw[Qw];exact hpc) (by rw[WM];exact h);obtain⟨x,h1,h2⟩:=this;rw[WM] at h1;rw[Qw] at h2;exact⟨x,h1,h2⟩
   have hjy:hs[pc].op=2->∃x:Nat,hs[pc].y=x/\x<hs.length:=fun h=>by
    have:=hG.jump2 (k:=pc) (by rw[Qw];exact hpc) (by rw[WM];exact h);obtain⟨x,h1,h2⟩:=this;rw[WM] at h1;rw[Qw] at h2;exact⟨x,h1,h2⟩
   have hjn:hs[pc].op=1\/hs[pc].op=4->pc+1<hs.length:=fun h=>by
    have:=hG.next (k:=pc) (by rw[Qw];exact hpc) (by rw[WM];exact h)
    rwa [Qw] at this
   have hgp:=qG hpc;have IH:=fun(l seen:List Nat) (pc:Nat) (w:World) (A B:Option Addr) (c d:Nat) h1 h2 h3 h4 h5 h6 h7 h8 h9=>lh (CS a0 gA gc hs runes caps hG hP f l seen pc w A B c d h1 h2 h3 h4 h5 h6 h7 h8 h9);obtain⟨pb,po,rfl,c0,c1,c2,c3,c4⟩:=hP.get hpc;have hS2:=hS.snoc hpc hm;have HPC:=lh hpc;have hsm2:∀i∈seen++[pc],i<1000000:=fun i hi=>by
    rcases List.mem_append.1 hi with h|h
    ·exact hsm i h
    ·have:i=pc:=by simpa using h
     omega
   have hf2:hs.length<f+(seen++[pc]).length:=by rw[List.length_append];simp only[List.length_cons,List.length_nil];omega
   have hls2:l.length<=(seen++[pc]).length:=by rw[List.length_append];omega
   have HE2:=fun h=>lh (dM (G:=QW hs) (f:=f) (l:=l) (seen:=seen) hm hgp h);have HE3:=fun h=>lh (dN (G:=QW hs) (f:=f) (l:=l) (seen:=seen) hm hgp h);have HE4:=fun h=>lh (dO (G:=QW hs) (f:=f) (l:=l) (seen:=seen) hm hgp h);have HEE:=fun h2 h3 h4=>lh (dP (G:=QW hs) (f:=f) (l:=l) (seen:=seen) hm hgp h2 h3 h4);have HSN:=lh (qX seen pc);have hpI:(pc:Int)<hs.length:=om;have hpI0:(0:Int)<=pc:=om;have HLB:=lh (show(QJ seen).length<=1099511627776 by rw[WY];omega);have HLA:=lh (show(QJ l).length<=1099511627776 by rw[WY];omega);simp only[Hin.ins] at HE2 HE3 HE4 HEE;generalize hs[pc]=hh at *;obtain⟨zop,zx,zy,zn,zA,zc,zl⟩:=hh
   simp only at c0 c1 c2 c3 c4 hop hjx hjy hjn HE2 HE3 HE4 HEE
   have IH2:=IH;unfold QN;unfold QN at IH;clear hG hP hB' hm hgp hS hls hf hsm;replace hAB:=lh hAB;obtain⟨L1,hL1⟩:∃L1,L1=QJ l:=⟨_,rfl⟩;obtain⟨L2,hL2⟩:∃L2,L2=QJ seen:=⟨_,rfl⟩
   rw[<-hL1,<-hL2];obtain⟨R1,hR1⟩:∃R1,R1=QJ (WZ (QW hs) (f+1) (l,seen) pc).1:=⟨_,rfl⟩;obtain⟨R2,hR2⟩:∃R2,R2=QJ (WZ (QW hs) (f+1) (l,seen) pc).2:=⟨_,rfl⟩
   rw[<-hR1,<-hR2];replace hR1:=lh hR1;replace hR2:=lh hR2
   rw[<-hL1] at HLA hA
   rw[<-hL2] at HLB HH hB HSN;replace hL1:=lh hL1;replace hL2:=lh hL2;replace hop:=lh hop;replace hjx:=lh hjx;replace hjy:=lh hjy;replace hjn:=lh hjn;replace hf2:=lh hf2;replace hls2:=lh hls2;replace hsm2:=lh hsm2;replace hS2:=lh hS2;clear hpc IH2;go_enter Tryz.func89,Tryz.ntmps89
   go_wp2_with fail
   refine HH.out.mono ?_;rintro e w1 hq;obtain⟨rfl,x1⟩:=hq.v;clear hq HH;have X1:=(x0.trans eG).trans x1;have hA0:=lh hA;have hB0:=lh hB;have k01:KpP (two A B) w w1:=KpP.of_ext (eG.trans x1);have z01:=(eG.trans x1).size;have hA1:=lh (QQ.ext hA (eG.trans x1));have hB1:=lh (QQ.ext hB (eG.trans x1));have bG1:=bG.ext x1;clear hA hB bG x0
   go_upto_region 5 with((at_builtin;refine KN rfl _ _ _ rfl 3 YF Tryz.underlying22 a0 X1 (pc:Int) rfl B d L2 rfl hB1.out rfl (HLB.out) (QJ (seen++[pc])) HSN.out ?_;intro B2 d2 w2 hoB x2 hgB hatB))
   have kk:=KpP.of_grown hgB;have hA2:=lh (QQ.kp hA1.out kk (fun b hb e=>hAB.out b hb e));have hAB2:=lh (show ∀b,A.map (·.block)=some b->B2.map (·.block)≠some b from fun b hb e=>by
    rcases hatB with h|h
    ·rw[h] at e;exact hAB.out b hb e
    ·rw[h] at e;injection e with e
     have:=(QQ.blt hA1.out hb).1;omega)
   have bG2:Blk w2 w.heap.size 33 #[.slice (some ⟨pb,po,none⟩) hs.length gc,.int .i64 caps,.bool runes]:=kk.blk bG1 (fun e=>by
    have h1:=QQ.row hB1.out _ e;have h2:=(QQ.blt hB1.out e);obtain⟨_,cur,hcur⟩:=h2;have h3:=bG1;unfold Blk at h3;rw[hcur] at h3;injection h3 with h3
    injection h3 with _ h4 _
    revert h4;decide)
   have q0:=x2.cell c0;have q1:=x2.cell c1;have q2:=x2.cell c2;have q3:=x2.cell c3;have q4:=x2.cell c4;have hoB2:=lh hoB;obtain⟨L3,hL3⟩:∃L3,L3=QJ (seen++[pc]):=⟨_,rfl⟩
   rw[<-hL3] at hoB2 ⊢
   rw[<-hL3] at hoB;replace hL3:=lh hL3;obtain⟨r0,r1,r2,r0f,r1f,r2f,rz⟩:=bG2.c3;have hB2n:=lh (show ∀b,B2.map (·.block)=some b->B.map (·.block)=some b\/w.heap.size<b from fun b hb=>by
    rcases hatB with h|h
    ·exact .inl (h▸hb)
    ·rw[h] at hb;injection hb with hb
     have:w.heap.size<w1.heap.size:=by
      have:=x1.size;simp only[World.size_alloc] at this;omega
     exact .inr om)
   have k02:KpP (two A B) w w2:=k01.chain kk (fun b hb=>.inl (.inr hb));have hb2w:=lh (show ∀b,two A B2 b->b≠w.heap.size/\b<w2.heap.size/\(two A B b\/w.heap.size<=b) from fun b hb=>by
    rcases hb with hb|hb
    ·have h1:=(QQ.blt hA0.out hb).1;have h2:=(QQ.blt hA2.out hb).1;exact⟨om,h2,.inl (.inl hb)⟩
    ·have h2:=(QQ.blt hoB hb).1;rcases hB2n.out b hb with h|h
     ·have h1:=(QQ.blt hB0.out h).1;exact⟨om,h2,.inl (.inr h)⟩
     ·exact⟨om,h2,.inr om⟩)
   clear kk hatB hgB hA1 hB1 c0 c1 c2 c3 c4 bG1 hoB HSN HLB X1 hAB hA0 hB0 hB2n x1 eG
   go_upto_region 6 with fail
   have bX:=Blk.new w2 123 #[.int .i64 zop,.int .i64 zx,.int .i64 zy,.int .i64 zn,.slice zA zl.length zc];have eX:=Ext.alloc w2 (.cells #[.int .i64 zop,.int .i64 zx,.int .i64 zy,.int .i64 zn,.slice zA zl.length zc] 123);have hA3:=lh (QQ.ext hA2.out eX);have hB3:=lh (QQ.ext hoB2.out eX);have bG3:=bG2.ext eX;have k03:KpP (two A B) w _:=k02.chain (KpP.of_ext (p:=fun _=>False) eX) (fun b hb=>hb.elim);have X3:=x2.trans eX;obtain⟨gx,hgx⟩:∃gx,gx=w2.heap.size:=⟨_,rfl⟩
   rw[<-hgx] at bX hb2w ⊢;generalize w2.alloc (.cells #[.int .i64 zop,.int .i64 zx,.int .i64 zy,.int .i64 zn,.slice zA zl.length zc] 123)=w3 at *;clear hgx bG2 q0 q1 q2 q3 q4 r0 r1 r2 r0f r1f r2f rz eX x2 hA2 hoB2 k02 k01;obtain⟨r0,r1,r2,r0f,r1f,r2f,rz⟩:=bG3.c3;obtain⟨s0,s1,s2,s3,s4,s5⟩:=Bz bX;have hw0:w.heap.size<=w3.heap.size:=k03.size;rcases hop.out with h0|h0|h0|h0|h0
   ·exact dS
   ·exact dS
   ·subst h0;obtain⟨xn,hxn,hxl⟩:=hjx.out (.inl rfl);obtain⟨yn,hyn,hyl⟩:=hjy.out rfl;have HR:=(HE2 rfl).out;rw[hxn] at HR s1;rw[hyn] at HR s2;have e1:((xn:Int)).toNat=xn:=om;have e2:((yn:Int)).toNat=yn:=om;rw[e1,e2] at HR;have HC:=IH l (seen++[pc]) xn w3 A B2 c d2 hS2.out hf2.out hxl hls2.out (by rw[<-hL1.out];exact hA3.out) (by rw[<-hL3.out];exact hB3.out) hAB2.out hsm2.out X3
    rw[<-hL1.out,<-hL3.out] at HC;have g1:=XU (G:=QW hs) f (l,seen++[pc]) xn (by rw[Qw];exact hS2.out);have g2:=YE (QW hs) f (l,seen++[pc]) xn;have g3:=V8 (QW hs) f (l,seen++[pc]) xn;rw[Qw] at g1;have hf3:=hf2.out;have hls3:=hls2.out
    simp only at g2 g3
    generalize WZ (QW hs) f (l,seen++[pc]) xn=r at *;obtain⟨r1l,r1s⟩:=r
    simp only at g1 g2 g3 HC HR
    have IHy:=fun(w:World) (A B:Option Addr) (c d:Nat)=>IH r1l r1s yn w A B c d g1 om hyl om;have hr6:∀i∈r1s,i<1000000:=fun i hi=>by have:=g1.2 i hi;omega
    replace hr6:=lh hr6
    rw[<-HR,<-hR1.out,<-hR2.out] at IHy;obtain⟨M1,hM1⟩:∃M1,M1=QJ r1l:=⟨_,rfl⟩;obtain⟨M2,hM2⟩:∃M2,M2=QJ r1s:=⟨_,rfl⟩
    rw[<-hM1,<-hM2] at HC IHy;clear HR HE2 HE3 HE4 HEE IH hR1 hR2 e1 e2 g1 g2 g3 hM1 hM2 hf3 hls3
    go_wp2_with fail
    refine HC.out.mono ?_;rintro e w4 ⟨A4,c4,B4,d4,rfl,H4⟩;have k34:=k03.chain H4.kp (fun b hb=>(hb2w.out b hb).2.2);have bG4:=H4.kp.blk bG3 (fun e=>(hb2w.out _ e).1 rfl);have bX4:=H4.kp.blk bX (fun e=>by have:=(hb2w.out _ e).2.1;omega);have X4:=X3.thenP H4.kp (fun b hb=>by
     rcases hb with h|h
     ·exact QQ.row hA3.out b h
     ·exact QQ.row hB3.out b h)
    have hw4:=H4.kp.size;have HC2:=IHy w4 A4 B4 c4 d4 H4.l H4.s H4.ap hr6.out X4;clear r0 r1 r2 r0f r1f r2f rz s0 s1 s2 s3 s4 s5 IHy;obtain⟨r0,r1,r2,r0f,r1f,r2f,rz⟩:=bG4.c3;obtain⟨s0,s1,s2,s3,s4,s5⟩:=Bz bX4;rw[hyn] at s2;have H4H:=lh H4;clear H4
    go_wp2_with fail
    refine HC2.out.mono ?_;rintro e w5 ⟨A5,c5,B5,d5,rfl,H5⟩
    go_wp2_with fail
    go_ret2
    have ha4:∀b,A4.map (·.block)=some b->A.map (·.block)=some b\/w.heap.size<=b:=fun b hb=>by
     rcases H4H.out.na b hb with h|h
     ·exact .inl h
     ·exact .inr om
    have hb4:∀b,B4.map (·.block)=some b->B.map (·.block)=some b\/w.heap.size<=b:=fun b hb=>by
     rcases H4H.out.nb b hb with h|h
     ·exact dU
     ·exact .inr om
    refine⟨A5,c5,B5,d5,rfl,H5.l,H5.s,H5.ap,k34.chain H5.kp (fun b hb=>by
     rcases hb with h|h
     ·exact(ha4 b h).imp .inl id
     ·exact(hb4 b h).imp .inr id),fun b hb=>?_,fun b hb=>?_⟩
    ·rcases H5.na b hb with h|h
     ·exact ha4 b h
     ·exact .inr om
    ·rcases H5.nb b hb with h|h
     ·exact hb4 b h
     ·exact .inr om
   ·subst h0;obtain⟨xn,hxn,hxl⟩:=hjx.out (.inr rfl);have HR:=(HE3 rfl).out;rw[hxn] at HR s1;have HC:=IH l (seen++[pc]) xn w3 A B2 c d2 hS2.out hf2.out hxl hls2.out (by rw[<-hL1.out];exact hA3.out) (by rw[<-hL3.out];exact hB3.out) hAB2.out hsm2.out X3;have e1:((xn:Int)).toNat=xn:=om;rw[e1] at HR
    rw[<-HR,<-hL1.out,<-hL3.out,<-hR1.out,<-hR2.out] at HC;clear HR HE2 HE3 HE4 HEE IH e1 hR1 hR2;exact eQ
   ·subst h0;have hnx:=hjn.out (.inr rfl);have HR:=(HE4 rfl).out;have HC:=IH l (seen++[pc]) (pc+1) w3 A B2 c d2 hS2.out hf2.out hnx hls2.out (by rw[<-hL1.out];exact hA3.out) (by rw[<-hL3.out];exact hB3.out) hAB2.out hsm2.out X3
    rw[<-HR,<-hL1.out,<-hL3.out,<-hR1.out,<-hR2.out] at HC;have ewp:IntKind.i64.wrap ((pc:Int)+1)=((pc+1:Nat):Int):=wj;have ecp:((pc+1:Nat):Int)=(pc:Int)+1:=om;rw[ecp] at HC;clear HR HE2 HE3 HE4 HEE IH hR1 hR2 ewp ecp;exact eQ
end
section
open Go.RowKit
def mkC (A:Option Addr)(n c:Nat)(at_ uses left caps:Int):Array Value:=#[.slice A n c,.int .i64 at_,.int .i64 uses,.int .i64 left,.int .i64 caps]
structure MkM (w w0:World)(gm:Nat)(A:Option Addr)(c:Nat)(ls:List Int)(uses B:Int):Prop where
 ext:Ext w0 w
 il:IL w0 A c ls
 lo:w0.heap.size<=gm
 blk:∃(at_:Nat) (left caps:Int),Blk w gm 251 (mkC A ls.length c at_ uses left caps)/\(at_:Int)<=B/\-B<=left/\left<=1000/\0<=caps/\caps<=4
theorem MkM.extW {w w' w0:World}{gm:Nat}{A:Option Addr}{c:Nat}{ls:List Int}{uses B:Int}(h:MkM w w0 gm A c ls uses B)(x:Ext w w'):MkM w' w0 gm A c ls uses B:=by
 obtain⟨h1,h2,h3,at_,left,caps,h4,h5⟩:=h;exact⟨h1.trans x,h2,h3,at_,left,caps,h4.ext x,h5⟩
theorem MkM.mono {w w0:World}{gm:Nat}{A:Option Addr}{c:Nat}{ls:List Int}{uses B B':Int}(h:MkM w w0 gm A c ls uses B)(hB:B<=B'):MkM w w0 gm A c ls uses B':=by
 obtain⟨h1,h2,h3,at_,left,caps,h4,h5,h6,h7⟩:=h;exact⟨h1,h2,h3,at_,left,caps,h4,om,om,h7⟩
theorem MkM.kpR {w w' w0:World}{gm g:Nat}{A:Option Addr}{c:Nat}{ls:List Int}{uses B:Int}(h:MkM w w0 gm A c ls uses B)(k:KpP (·=g) w w')(hg:gm≠g)(h0:w0.heap.size<=g):MkM w' w0 gm A c ls uses B:=by
 obtain⟨h1,h2,h3,at_,left,caps,h4,h5⟩:=h;exact⟨h1.kp k (fun i hi=>hi▸h0),h2,h3,at_,left,caps,k.blk h4 hg,h5⟩
theorem VX (l:List Int)(i:Nat)(m:Int)(h:1<=m):0<=pick l i m/\pick l i m<m:=by
 unfold pick
 split
 ·exact vK _ _ h
 ·omega
def i5 (w0:World)(gm:Nat)(A:Option Addr)(c:Nat)(ls:List Int)(uses B n:Int)(w:World)(e:Ending)(w':World):Prop:=
 ∃v:Int,e=.returned (.int .i64 v)/\0<=v/\v<n/\MkM w' w0 gm A c ls uses B/\KpP (·=gm) w w'
def eZ (w0:World)(gm:Nat)(A:Option Addr)(n c:Nat)(at_ uses left caps v:Int)(w:World)(e:Ending)(w':World):Prop:=
 e=.returned (.int .i64 v)/\Blk w' gm 251 (mkC A n c at_ uses left caps)/\Ext w0 w'/\KpP (·=gm) w w'
theorem YZ (w0 w:World)(gm:Nat)(A:Option Addr)(c:Nat)(ls:List Int)(uses n:Int)(x0:Ext w0 w)(il:IL w0 A c ls)(lo:w0.heap.size<=gm)(at_:Nat)(left caps:Int)(hb:Blk w gm 251 (mkC A ls.length c at_ uses left caps))(hat:(at_:Int)<=100000000)
 (h0:1<=n) (h1:n<=1000) :
 Calls Tryz.prog 184 #[.pointer (some ⟨gm,0,none⟩),.int .i64 n] w (eZ w0 gm A ls.length c ((at_:Int)+1) uses left caps (pick ls at_ n) w):=by
 have c1:w.cell? ⟨gm,1,none⟩=some (.int .i64 at_):=hb.cell 1;have f1:=hb.frz 1;have ewp:IntKind.i64.wrap ((at_:Int)+1)=(at_:Int)+1:=wj;have hll:=il.len;go_enter Tryz.func184,Tryz.ntmps184
 go_upto_region 2 with fail
 have K2:KpP (·=gm) w (w.setCell ⟨gm,1,none⟩ (.int .i64 ((at_:Int)+1))):=KpP.set (p:=(·=gm)) (x:=⟨gm,1,none⟩) (KpP.refl _ _) (.inl rfl) _;have X2:Ext w0 (w.setCell ⟨gm,1,none⟩ (.int .i64 ((at_:Int)+1))):=x0.setNew (p:=⟨gm,1,none⟩) lo _;have b2:=hb.set 1 (.int .i64 ((at_:Int)+1));generalize w.setCell ⟨gm,1,none⟩ (.int .i64 ((at_:Int)+1))=w2 at *;have d0:w2.cell? ⟨gm,0,none⟩=some (.slice A ls.length c):=b2.cell 0;have d1:w2.cell? ⟨gm,1,none⟩=some (.int .i64 ((at_:Int)+1)):=b2.cell 1;have ewm:IntKind.i64.wrap ((at_:Int)+1-1)=(at_:Int):=wj;have HI:=lh (il.ext X2);have HB2:=lh b2;clear b2 c1 f1 hb
 go_wp2_with (go_quiet (first|(go_at_call 37;refine Calls.quiet_of (xL A c ls at_ n _ (HI.out.ext (Ext.drewN _ _)) h0 om om))))
 go_ret
 refine⟨rfl,?_,X2.trans (Ext.drewN _ _),K2.trans (KpP.of_ext (Ext.drewN _ _))⟩;have b:=HB2.out.ext (Ext.drewN w2 nq)
 simpa[mkC] using b
theorem YG (w0 w:World)(gm:Nat)(A:Option Addr)(c:Nat)(ls:List Int)(uses B n:Int)(h:MkM w w0 gm A c ls uses B)(hB:B<=100000000)(h0:1<=n)(h1:n<=1000) :
 Calls Tryz.prog 184 #[.pointer (some ⟨gm,0,none⟩),.int .i64 n] w (i5 w0 gm A c ls uses (B+1) n w):=by
 obtain⟨x0,il,lo,at_,left,caps,hb,hat,hl1,hl2,hc1,hc2⟩:=h;refine(YZ w0 w gm A c ls uses n x0 il lo at_ left caps hb om h0 h1).mono ?_;rintro e w' ⟨h1,h2,h3,h4⟩;have hp:=VX ls at_ n h0;exact⟨_,h1,hp.1,hp.2,⟨h3,il,lo,at_+1,left,caps,by simpa using h2,om,om,om,om,om⟩,h4⟩
theorem SX:(Tryz.prog.info? 3).map (fun i=>(i.zero,i.size,i.bytes))=some (some (.int .i64 0),1,8):=by kernel_rfl
theorem Ow (a b:Int)(n:Nat)(w:World):(Op.equalIn (n+1) 3 (.int .i64 a) (.int .i64 b)).run Tryz.prog w=.ok (a == b) w:=by
 have u3:=Tryz.underlying3;unfold Op.equalIn;go_simp
theorem AZ (a b:Int)(w:World):(part 3 #[.int .i64 a,.int .i64 b] (0*1)).run Tryz.prog w=.ok (.int .i64 a) w/\(part 3 #[.int .i64 a,.int .i64 b] (1*1)).run Tryz.prog w=.ok (.int .i64 b) w:=by
 unfold part;constructor<;>go_simp
theorem F9 (a b c d:Int)(w:World):(Op.equalIn 10000 82 (.agg #[.int .i64 a,.int .i64 b]) (.agg #[.int .i64 c,.int .i64 d])).run Tryz.prog w=.ok (a == c&&b == d) w:=by
 obtain⟨i0,hi0,_⟩:=info_parts SX;have hu:Tryz.prog.underlying 82=some (.array 2 3):=by kernel_rfl
 have hc:Tryz.prog.cellsOf 3=1:=by kernel_rfl
 rw[show(10000:Nat)=9999+1 from rfl,run_equalIn_array w 9999 _ _ hu hi0,hc,show(9999:Nat)=9998+1 from rfl]
 show(Op.eqItems (9998+1) 3 1 _ _ [0,1]).run _ _=_
 unfold Op.eqItems;simp only[Sem.run_bind,(AZ a b w).1,(AZ c d w).1,Ow,Result.andThen_ok];by_cases h1:a=c
 ·subst h1;simp only[beq_self_eq_true,Bool.not_true,Bool.false_eq_true,if_false,Bool.true_and];unfold Op.eqItems;simp only[Sem.run_bind,(AZ a b w).2,(AZ a d w).2,Ow,Result.andThen_ok];by_cases h2:b=d
  ·subst h2;simp[Op.eqItems]
  ·have:(b == d)=false:=by simpa using h2
   simp[this]
 ·have:(a == c)=false:=by simpa using h1
  simp[this]
theorem Ex (A B:Option Addr)(c d:Nat)(a b:List Sp)(w:World)(ha:SL w A c a)(hb:SL w B d b):Calls Tryz.prog 32 #[.slice A a.length c,.slice B b.length d] w (QD (.bool (decide (a=b))) w):=by
 have hla:=ha.len;have hlb:=hb.len;have HQ:=fun(x y z u:Int) (W:World)=>F9 x y z u W;by_cases hl:a.length=b.length
 ·have HT:=fun h=>lh (OY hl h);have HF:=fun j h1 h2 h=>lh (Oq (a:=a) (b:=b) (j:=j) h1 h2 h);generalize decide (a=b)=r at *;have hne:((a.length:Int) != (b.length:Int))=false:=by simp[hl]
  have HL:=lh hl;clear hl;go_enter Tryz.func32,Tryz.ntmps32
  go_wp2_with fail
  go_loopw [5] (fun v wr=>∃i:Nat,v=.int .i64 i/\i<=a.length/\Hid (∀j (h1:j<a.length) (h2:j<b.length),j<i->a[j]=b[j])/\Ext w wr) (fun v _=>a.length-(intOf v).toNat)
  case atStart=>exact⟨0,rfl,om,fun j _ _ hj=>absurd hj (Nat.not_lt_zero _),Ext.rfl' _⟩
  case round=>
   obtain⟨i,rfl,hi,HI,x1⟩:=hrel;by_cases hlt:i<a.length
   ·have hlt2:i<b.length:=by have:=HL.out;omega
    obtain⟨b1,o1,rfl,g1,g2⟩:=(ha.ext x1).get hlt;obtain⟨b2,o2,rfl,g3,g4⟩:=(hb.ext x1).get hlt2;have hI:(i:Int)<a.length:=om;have hI2:(i:Int)<b.length:=om;have HI2:=lh (show a[i]=b[i]->∀j (h1:j<a.length) (h2:j<b.length),j<i+1->a[j]=b[j] from fun hn j h1 h2 hji=>by
     rcases Nat.lt_or_ge j i with h3|h3
     ·exact HI.out j h1 h2 h3
     ·have:j=i:=om;subst this;exact hn)
    have HF2:=HF i hlt hlt2;generalize a[i]=s at *;generalize b[i]=t at *;obtain⟨s1,s2⟩:=s;obtain⟨t1,t2⟩:=t
    simp only at g1 g2 g3 g4 HI2 HF2
    have k1:=kc0 g1;have k2:=kc0 g2;have k3:=kc0 g3;have k4:=kc0 g4;have HEQ:=F9 s1 s2 t1 t2;by_cases he:s1=t1/\s2=t2
    ·obtain⟨rfl,rfl⟩:=he;have HI3:=lh (HI2.out rfl);simp only[beq_self_eq_true,Bool.and_self] at HEQ;clear HI2 HF2 HI HT HF HQ
     go_upto_region 6 with fail
     refine Xr.start [] kr ?_;refine Xtk 0 ?_
     iterate 8(refine Xtn ?_)
     refine Xdn fun w2 hE2 hK2=>?_;have x3:=x1.trans hK2.nil;clear k1 k2 k3 k4 hE2 hK2 HEQ g1 g2 g3 g4
     go_wp2_with fail
     go_roundw
     case rel=>exact⟨i+1,by go_num,om,HI3,x3⟩
     case measure=>simp[intOf];omega
    ·have HR:=HF2 (fun e=>he (by injection e with e1 e2;exact⟨e1,e2⟩));have hbe:(s1 == t1&&s2 == t2)=false:=by
      rw[Bool.eq_false_iff];intro h;simp at h;exact he h
     rw[hbe] at HEQ;clear HI2 HF2 HI HT HF HQ hbe he
     go_upto_region 6 with fail
     refine Xr.start [] kr ?_;refine Xtk 0 ?_
     iterate 8(refine Xtn ?_)
     refine Xdn fun w2 hE2 hK2=>?_;have x3:=x1.trans hK2.nil;clear k1 k2 k3 k4 hE2 hK2 HEQ g1 g2 g3 g4
     go_wp2_with fail
     go_ret
     exact⟨by rw[HR.out];rfl,x3⟩
   ·have hI:¬(i:Int)<a.length:=om;have HR:=HT (fun j h1 h2=>HI.out j h1 h2 om);clear HT HF HI HQ
    go_wp2_with fail
    go_ret
    exact⟨by rw[HR.out];rfl,x1⟩
 ·have HR:=lh (Oz hl);generalize decide (a=b)=r at *;have hne:((a.length:Int) != (b.length:Int))=true:=by simp;omega
  clear hl HQ;go_enter Tryz.func32,Tryz.ntmps32
  go_wp2_with fail
  go_ret
  exact⟨by rw[HR.out];rfl,Ext.rfl' _⟩
end
