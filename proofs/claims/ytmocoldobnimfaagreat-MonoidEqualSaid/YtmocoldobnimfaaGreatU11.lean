/- Texts of this proof: K1 K2 K3 K4 K5 K6 J2. -/
import Derived.Test.YtmocoldobnimfaaGreatU09
import Derived.Deep.DrawnRows
set_option linter.all false
set_option maxRecDepth 100000
set_option maxHeartbeats 16000000
namespace Go.Proofs.YtmocoldobnimfaaGreat
section
open Go.RowKit
attribute [local go_sem ↓] Go.wp_at_zero Go.wp_at_succ
theorem has_any (A:Option Addr)(c:Nat)(xs:List Int)(n:Int)(w:World)(ha:IL w A c xs) :
 Calls Tryz.prog 108 #[.slice A xs.length c,.int .i64 n] w (RetQ (.bool (decide (n∈xs))) w):=by
 obtain⟨a1,a2⟩:=ha.len;go_enter Tryz.func108,Tryz.ntmps108
 go_wp2
 go_loopw [5] (fun i wr=>∃k:Nat,k≤xs.length∧i=.int .i64 k∧Hid (n∉xs.take k)∧∃m,wr=w.drewN m) (fun i _=>xs.length-(intOf i).toNat)
 case atStart=>exact⟨0,Nat.zero_le _,rfl,lh si,0,rfl⟩
 case round=>
  obtain⟨k,hk,rfl,ht,m,rfl⟩:=hrel;by_cases hlt:k<xs.length
  ·obtain⟨p1,o1,rfl,g1⟩:=ha.get hlt;have hlt2:(k:Int)<xs.length:=om;by_cases he:xs[k]=n
   ·have he':(xs[k] == n)=true:=by simp[he]
    have HN:=lh (show decide (n∈xs)=true from decide_eq_true (he▸List.getElem_mem hlt));clear he
    go_wp2_with (go_quiet (fail))
    go_ret
    exact⟨by rw[HN.out];rfl,_,rfl⟩
   ·have he':(xs[k] == n)=false:=by simp[he]
    have HT:=lh (show n∉xs.take (k+1) by
     rw[List.take_succ_eq_append_getElem hlt];simp only[List.mem_append,List.mem_singleton,not_or];exact⟨ht.out,fun e=>he e.symm⟩)
    clear he
    go_wp2_with (go_quiet (fail))
    go_roundw
    case rel=>exact⟨k+1,om,by go_num,HT,_,rfl⟩
    case measure=>simp[intOf];omega
  ·have HN:=lh (show decide (n∈xs)=false from decide_eq_false (by
    have:=ht.out
    rwa [List.take_of_length_le om] at this))
   go_wp2
   go_ret
   exact⟨by rw[HN.out];rfl,_,rfl⟩
def castL (l:List Nat):List Int:=l.map (fun(n:Nat)=>(n:Int))
theorem castL_len (l:List Nat):(castL l).length=l.length:=by simp[castL]
theorem castL_snoc (l:List Nat)(n:Nat):castL (l++[n])=castL l++[(n:Int)]:=by simp[castL]
theorem castL_mem {l:List Nat}{n:Nat}:(n:Int)∈castL l↔n∈l:=by
 unfold castL;rw[List.mem_map];constructor
 ·rintro⟨m,hm,he⟩;have:m=n:=om;subst this;exact hm
 ·exact fun h=>⟨n,h,rfl⟩
theorem castL_i64 {l:List Nat}(h:∀i∈l,i<1000000):∀x∈castL l,I64 x:=by
 intro x hx;obtain⟨n,hn,rfl⟩:=List.mem_map.1 hx;have:=h n hn;unfold I64;omega
def insL (hs:List Hin):List Ins:=hs.map Hin.ins
theorem insL_len (hs:List Hin):(insL hs).length=hs.length:=by simp[insL]
theorem insL_get {hs:List Hin}{k:Nat}(hk:k<hs.length):(insL hs)[k]? = some hs[k].ins:=by simp[insL,hk]
theorem insL_getElem {hs:List Hin}{k:Nat}(hk:k<(insL hs).length):(insL hs)[k]=(hs[k]'(by rw[insL_len] at hk;exact hk)).ins:=by simp[insL]
theorem addR_2 {G:List Ins}{f:Nat}{l seen:List Nat}{pc:Nat}{i:Ins}(hm:pc∉seen)(hg:G[pc]? = some i)(h:i.op=2):addR G (f+1) (l,seen) pc=addR G f (addR G f (l,seen++[pc]) i.x.toNat) i.y.toNat:=by
 rw[addR];simp only[hm,if_false,hg,h,if_true]
theorem addR_3 {G:List Ins}{f:Nat}{l seen:List Nat}{pc:Nat}{i:Ins}(hm:pc∉seen)(hg:G[pc]? = some i)(h:i.op=3):addR G (f+1) (l,seen) pc=addR G f (l,seen++[pc]) i.x.toNat:=by
 rw[addR];simp only[hm,if_false,hg,h];simp
theorem addR_4 {G:List Ins}{f:Nat}{l seen:List Nat}{pc:Nat}{i:Ins}(hm:pc∉seen)(hg:G[pc]? = some i)(h:i.op=4):addR G (f+1) (l,seen) pc=addR G f (l,seen++[pc]) (pc+1):=by
 rw[addR];simp only[hm,if_false,hg,h];simp
theorem addR_e {G:List Ins}{f:Nat}{l seen:List Nat}{pc:Nat}{i:Ins}(hm:pc∉seen)(hg:G[pc]? = some i)(h2:i.op≠2)(h3:i.op≠3)(h4:i.op≠4):addR G (f+1) (l,seen) pc=(l++[pc],seen++[pc]):=by
 rw[addR];simp only[hm,if_false,hg,h2,h3,h4]
theorem KpP.chain {p q:Nat→Prop}{a b c:World}(h:KpP p a b)(k:KpP q b c)(hq:∀i,q i→p i∨a.heap.size≤i):KpP p a c:=
 ⟨k.os.trans h.os,k.tape.trans h.tape,k.output.trans h.output,Nat.le_trans h.size k.size,fun i hi hn=>(k.block i (Nat.lt_of_lt_of_le hi h.size) (fun hm=>by
  rcases hq i hm with h1|h1
  ·exact hn h1
  ·omega)).trans (h.block i hi hn)⟩
theorem Ext.thenP {p:Nat→Prop}{a b c:World}(h:Ext a b)(k:KpP p b c)(hp:∀i,p i→a.heap.size≤i):Ext a c:=
 ⟨k.os.trans h.os,k.tape.trans h.tape,k.output.trans h.output,Nat.le_trans h.size k.size,fun i hi=>(k.block i (Nat.lt_of_lt_of_le hi h.size) (fun hm=>by have:=hp i hm;omega)).trans (h.block i hi)⟩
def two (A B:Option Addr)(b:Nat):Prop:=A.map (·.block)=some b∨B.map (·.block)=some b
structure AddR (a0 w:World)(A0 B0:Option Addr)(L1 L2:List Int)(A:Option Addr)(c:Nat)(B:Option Addr)(d:Nat)(w':World):Prop where
 l:OwnI w' a0.heap.size 3 A c L1
 s:OwnI w' a0.heap.size 3 B d L2
 ap:∀b,A.map (·.block)=some b→B.map (·.block)≠some b
 kp:KpP (two A0 B0) w w'
 na:∀b,A.map (·.block)=some b→A0.map (·.block)=some b∨w.heap.size≤b
 nb:∀b,B.map (·.block)=some b→B0.map (·.block)=some b∨w.heap.size≤b
def RetAdR (a0 w:World)(A0 B0:Option Addr)(L1 L2:List Int)(e:Ending)(w':World):Prop:=
 ∃(A:Option Addr) (c:Nat) (B:Option Addr) (d:Nat),e=.returned (.tuple #[.slice A L1.length c,.slice B L2.length d])∧AddR a0 w A0 B0 L1 L2 A c B d w'
theorem blk5 {w:World}{g T:Nat}{a b c d e:Value}(h:Blk w g T #[a,b,c,d,e]):w.cell? ⟨g,0,none⟩=some a∧w.cell? ⟨g,1,none⟩=some b∧w.cell? ⟨g,2,none⟩=some c∧w.cell? ⟨g,3,none⟩=some d∧w.cell? ⟨g,4,none⟩=some e∧g<w.heap.size:=
 ⟨h.cell 0,h.cell 1,h.cell 2,h.cell 3,h.cell 4,h.lt⟩
def progV (gA:Option Addr)(n gc:Nat)(caps:Int)(runes:Bool):Value:=.agg #[.slice gA n gc,.int .i64 caps,.bool runes]
theorem infoNk:(Tryz.prog.info? 3).map (fun i=>(i.zero,i.size,i.bytes))=some (some (.int .i64 0),1,8):=by kernel_rfl
theorem K1z1 {P:Prop} (h:P:=by
 subst h0;have HR:=(HEE de de de).out;have HLS:=lh (castL_snoc l pc)
 rw[←hL1.out] at HLS;have HR1:=lh (show R1=L1++[(pc:Int)] by rw[hR1.out,HR];exact HLS.out);have HR2:=lh (show R2=L3 by rw[hR2.out,HR];exact hL3.out.symm);clear HR HE2 HE3 HE4 HEE IH hR1 hR2 HLS
 go_wp2_with ((at_builtin;refine wpList_app1I rfl _ _ _ rfl 3 infoNk Tryz.underlying22 a0 X3 (pc:Int) rfl A c L1 rfl hA3.out rfl HLA.out R1 HR1.out ?_;intro A4 c4 w4 hoA x4 hgA hatA))
 go_ret2
 rw[HR2.out];have kk:=KpP.of_grown hgA;refine⟨A4,c4,B2,d2,rfl,hoA,OwnS.kp hB3.out kk (fun b hb e=>hAB2.out b e hb),fun b hb e=>?_,k03.chain kk (fun b hb=>(hb2w.out b (.inl hb)).2.2),fun b hb=>?_,fun b hb=>?_⟩
 ·rcases hatA with h|h
  ·rw[h] at hb;exact hAB2.out b hb e
  ·rw[h] at hb;injection hb with hb
   have:=(OwnS.blt hB3.out e).1;omega
 ·rcases hatA with h|h
  ·rw[h] at hb;exact .inl hb
  ·rw[h] at hb;injection hb with hb
   exact .inr om
 ·rcases(hb2w.out b (.inr hb)).2.2 with h2|h2
  ·rcases h2 with h2|h2
   ·exact absurd hb (hAB2.out b h2)
   ·exact .inl h2
  ·exact .inr h2):P:=h
theorem K1z3 {P:Prop} (h:P:=by
 rcases(hb2w.out b (.inr h)).2.2 with h2|h2
 ·rcases h2 with h2|h2
  ·exact absurd h (hAB2.out b h2)
  ·exact .inl h2
 ·exact .inr h2):P:=h
theorem K1z2 {P:Prop} (h:P:=by
 go_wp2_with fail
 refine HC.out.mono ?_;rintro e w4 ⟨A4,c4,B4,d4,rfl,H4⟩
 go_wp2_with fail
 go_ret2
 refine⟨A4,c4,B4,d4,rfl,H4.l,H4.s,H4.ap,k03.chain H4.kp (fun b hb=>(hb2w.out b hb).2.2),fun b hb=>?_,fun b hb=>?_⟩
 ·rcases H4.na b hb with h|h
  ·exact .inl h
  ·exact .inr om
 ·rcases H4.nb b hb with h|h
  ·exact K1z3
  ·exact .inr om):P:=h
theorem add12_any (a0:World)(gA:Option Addr)(gc:Nat)(hs:List Hin)(runes:Bool)(caps:Int)(hG:GOk runes caps (insL hs))(hP:PL a0 gA gc hs):∀(f:Nat) (l seen:List Nat) (pc:Nat) (w:World) (A B:Option Addr) (c d:Nat),
 SeenOk hs.length seen→hs.length<f+seen.length→pc<hs.length→l.length≤seen.length→OwnI w a0.heap.size 3 A c (castL l)→OwnI w a0.heap.size 3 B d (castL seen)→(∀b,A.map (·.block)=some b→B.map (·.block)≠some b)→(∀i∈seen,i<1000000)→Ext a0 w→
 Calls Tryz.prog 89 #[progV gA hs.length gc caps runes,.slice A (castL l).length c,.slice B (castL seen).length d,.int .i64 pc] w (RetAdR a0 w A B (castL (addR (insL hs) f (l,seen) pc).1) (castL (addR (insL hs) f (l,seen) pc).2))
 | 0,l,seen,pc,w,A,B,c,d,hS,hf,_,_,_,_,_,_,_=>by have:=hS.len;omega
 | f+1,l,seen,pc,w,A,B,c,d,hS,hf,hpc,hls,hA,hB,hAB,hsm,x0=>by
  have hlen:=hG.len;rw[insL_len] at hlen;have hseen:=hS.len;have hcl:=hP.len;have hB':=IL.of_own hB (castL_i64 hsm);have bG:=Blk.new w 33 #[.slice gA hs.length gc,.int .i64 caps,.bool runes];have eG:=Ext.alloc w (.cells #[.slice gA hs.length gc,.int .i64 caps,.bool runes] 33);have HH:=lh (has_any B d (castL seen) pc _ (hB'.ext eG));by_cases hm:pc∈seen
  ·rw[decide_eq_true (castL_mem.2 hm)] at HH;have HR:=lh (show addR (insL hs) (f+1) (l,seen) pc=(l,seen) by rw[addR];simp[hm]);rw[HR.out];unfold progV;generalize castL l=L1 at *;generalize castL seen=L2 at *;clear hf hls hS hG hP hB' hsm hseen hm;replace hAB:=lh hAB;clear hpc;go_enter Tryz.func89,Tryz.ntmps89
   go_wp2_with fail
   refine HH.out.mono ?_;rintro e w1 hq;obtain⟨rfl,x1⟩:=hq.v;clear hq HH
   go_wp2_with fail
   go_ret2
   exact⟨A,c,B,d,rfl,OwnS.ext hA (eG.trans x1),OwnS.ext hB (eG.trans x1),hAB.out,KpP.of_ext (eG.trans x1),fun b h=>.inl h,fun b h=>.inl h⟩
  ·rw[decide_eq_false (fun h=>hm (castL_mem.1 h))] at HH;have hop:hs[pc].op=0∨hs[pc].op=1∨hs[pc].op=2∨hs[pc].op=3∨hs[pc].op=4:=by
    have:=hG.op (k:=pc) (by rw[insL_len];exact hpc)
    rwa [insL_getElem] at this
   have hjx:hs[pc].op=2∨hs[pc].op=3→∃x:Nat,hs[pc].x=x∧x<hs.length:=fun h=>by
    have:=hG.jump (k:=pc) (by rw[insL_len];exact hpc) (by rw[insL_getElem];exact h);obtain⟨x,h1,h2⟩:=this;rw[insL_getElem] at h1;rw[insL_len] at h2;exact⟨x,h1,h2⟩
   have hjy:hs[pc].op=2→∃x:Nat,hs[pc].y=x∧x<hs.length:=fun h=>by
    have:=hG.jump2 (k:=pc) (by rw[insL_len];exact hpc) (by rw[insL_getElem];exact h);obtain⟨x,h1,h2⟩:=this;rw[insL_getElem] at h1;rw[insL_len] at h2;exact⟨x,h1,h2⟩
   have hjn:hs[pc].op=1∨hs[pc].op=4→pc+1<hs.length:=fun h=>by
    have:=hG.next (k:=pc) (by rw[insL_len];exact hpc) (by rw[insL_getElem];exact h)
    rwa [insL_len] at this
   have hgp:=insL_get hpc;have IH:=fun(l seen:List Nat) (pc:Nat) (w:World) (A B:Option Addr) (c d:Nat) h1 h2 h3 h4 h5 h6 h7 h8 h9=>lh (add12_any a0 gA gc hs runes caps hG hP f l seen pc w A B c d h1 h2 h3 h4 h5 h6 h7 h8 h9);obtain⟨pb,po,rfl,c0,c1,c2,c3,c4⟩:=hP.get hpc;have hS2:=hS.snoc hpc hm;have HPC:=lh hpc;have hsm2:∀i∈seen++[pc],i<1000000:=fun i hi=>by
    rcases List.mem_append.1 hi with h|h
    ·exact hsm i h
    ·have:i=pc:=by simpa using h
     omega
   have hf2:hs.length<f+(seen++[pc]).length:=by rw[List.length_append];simp only[List.length_cons,List.length_nil];omega
   have hls2:l.length≤(seen++[pc]).length:=by rw[List.length_append];omega
   have HE2:=fun h=>lh (addR_2 (G:=insL hs) (f:=f) (l:=l) (seen:=seen) hm hgp h);have HE3:=fun h=>lh (addR_3 (G:=insL hs) (f:=f) (l:=l) (seen:=seen) hm hgp h);have HE4:=fun h=>lh (addR_4 (G:=insL hs) (f:=f) (l:=l) (seen:=seen) hm hgp h);have HEE:=fun h2 h3 h4=>lh (addR_e (G:=insL hs) (f:=f) (l:=l) (seen:=seen) hm hgp h2 h3 h4);have HSN:=lh (castL_snoc seen pc);have hpI:(pc:Int)<hs.length:=om;have hpI0:(0:Int)≤pc:=om;have HLB:=lh (show(castL seen).length≤1099511627776 by rw[castL_len];omega);have HLA:=lh (show(castL l).length≤1099511627776 by rw[castL_len];omega);simp only[Hin.ins] at HE2 HE3 HE4 HEE;generalize hs[pc]=hh at *;obtain⟨zop,zx,zy,zn,zA,zc,zl⟩:=hh
   simp only at c0 c1 c2 c3 c4 hop hjx hjy hjn HE2 HE3 HE4 HEE
   have IH2:=IH;unfold progV;unfold progV at IH;clear hG hP hB' hm hgp hS hls hf hsm;replace hAB:=lh hAB;obtain⟨L1,hL1⟩:∃L1,L1=castL l:=⟨_,rfl⟩;obtain⟨L2,hL2⟩:∃L2,L2=castL seen:=⟨_,rfl⟩
   rw[←hL1,←hL2];obtain⟨R1,hR1⟩:∃R1,R1=castL (addR (insL hs) (f+1) (l,seen) pc).1:=⟨_,rfl⟩;obtain⟨R2,hR2⟩:∃R2,R2=castL (addR (insL hs) (f+1) (l,seen) pc).2:=⟨_,rfl⟩
   rw[←hR1,←hR2];replace hR1:=lh hR1;replace hR2:=lh hR2
   rw[←hL1] at HLA hA
   rw[←hL2] at HLB HH hB HSN;replace hL1:=lh hL1;replace hL2:=lh hL2;replace hop:=lh hop;replace hjx:=lh hjx;replace hjy:=lh hjy;replace hjn:=lh hjn;replace hf2:=lh hf2;replace hls2:=lh hls2;replace hsm2:=lh hsm2;replace hS2:=lh hS2;clear hpc IH2;go_enter Tryz.func89,Tryz.ntmps89
   go_wp2_with fail
   refine HH.out.mono ?_;rintro e w1 hq;obtain⟨rfl,x1⟩:=hq.v;clear hq HH;have X1:=(x0.trans eG).trans x1;have hA0:=lh hA;have hB0:=lh hB;have k01:KpP (two A B) w w1:=KpP.of_ext (eG.trans x1);have z01:=(eG.trans x1).size;have hA1:=lh (OwnS.ext hA (eG.trans x1));have hB1:=lh (OwnS.ext hB (eG.trans x1));have bG1:=bG.ext x1;clear hA hB bG x0
   go_upto_region 5 with((at_builtin;refine wpList_app1I rfl _ _ _ rfl 3 infoNk Tryz.underlying22 a0 X1 (pc:Int) rfl B d L2 rfl hB1.out rfl (HLB.out) (castL (seen++[pc])) HSN.out ?_;intro B2 d2 w2 hoB x2 hgB hatB))
   have kk:=KpP.of_grown hgB;have hA2:=lh (OwnS.kp hA1.out kk (fun b hb e=>hAB.out b hb e));have hAB2:=lh (show ∀b,A.map (·.block)=some b→B2.map (·.block)≠some b from fun b hb e=>by
    rcases hatB with h|h
    ·rw[h] at e;exact hAB.out b hb e
    ·rw[h] at e;injection e with e
     have:=(OwnS.blt hA1.out hb).1;omega)
   have bG2:Blk w2 w.heap.size 33 #[.slice (some ⟨pb,po,none⟩) hs.length gc,.int .i64 caps,.bool runes]:=kk.blk bG1 (fun e=>by
    have h1:=OwnS.row hB1.out _ e;have h2:=(OwnS.blt hB1.out e);obtain⟨_,cur,hcur⟩:=h2;have h3:=bG1;unfold Blk at h3;rw[hcur] at h3;injection h3 with h3
    injection h3 with _ h4 _
    revert h4;decide)
   have q0:=x2.cell c0;have q1:=x2.cell c1;have q2:=x2.cell c2;have q3:=x2.cell c3;have q4:=x2.cell c4;have hoB2:=lh hoB;obtain⟨L3,hL3⟩:∃L3,L3=castL (seen++[pc]):=⟨_,rfl⟩
   rw[←hL3] at hoB2 ⊢
   rw[←hL3] at hoB;replace hL3:=lh hL3;obtain⟨r0,r1,r2,r0f,r1f,r2f,rz⟩:=bG2.c3;have hB2n:=lh (show ∀b,B2.map (·.block)=some b→B.map (·.block)=some b∨w.heap.size<b from fun b hb=>by
    rcases hatB with h|h
    ·exact .inl (h▸hb)
    ·rw[h] at hb;injection hb with hb
     have:w.heap.size<w1.heap.size:=by
      have:=x1.size;simp only[World.size_alloc] at this;omega
     exact .inr om)
   have k02:KpP (two A B) w w2:=k01.chain kk (fun b hb=>.inl (.inr hb));have hb2w:=lh (show ∀b,two A B2 b→b≠w.heap.size∧b<w2.heap.size∧(two A B b∨w.heap.size≤b) from fun b hb=>by
    rcases hb with hb|hb
    ·have h1:=(OwnS.blt hA0.out hb).1;have h2:=(OwnS.blt hA2.out hb).1;exact⟨om,h2,.inl (.inl hb)⟩
    ·have h2:=(OwnS.blt hoB hb).1;rcases hB2n.out b hb with h|h
     ·have h1:=(OwnS.blt hB0.out h).1;exact⟨om,h2,.inl (.inr h)⟩
     ·exact⟨om,h2,.inr om⟩)
   clear kk hatB hgB hA1 hB1 c0 c1 c2 c3 c4 bG1 hoB HSN HLB X1 hAB hA0 hB0 hB2n x1 eG
   go_upto_region 6 with fail
   have bX:=Blk.new w2 123 #[.int .i64 zop,.int .i64 zx,.int .i64 zy,.int .i64 zn,.slice zA zl.length zc];have eX:=Ext.alloc w2 (.cells #[.int .i64 zop,.int .i64 zx,.int .i64 zy,.int .i64 zn,.slice zA zl.length zc] 123);have hA3:=lh (OwnS.ext hA2.out eX);have hB3:=lh (OwnS.ext hoB2.out eX);have bG3:=bG2.ext eX;have k03:KpP (two A B) w _:=k02.chain (KpP.of_ext (p:=fun _=>False) eX) (fun b hb=>hb.elim);have X3:=x2.trans eX;obtain⟨gx,hgx⟩:∃gx,gx=w2.heap.size:=⟨_,rfl⟩
   rw[←hgx] at bX hb2w ⊢;generalize w2.alloc (.cells #[.int .i64 zop,.int .i64 zx,.int .i64 zy,.int .i64 zn,.slice zA zl.length zc] 123)=w3 at *;clear hgx bG2 q0 q1 q2 q3 q4 r0 r1 r2 r0f r1f r2f rz eX x2 hA2 hoB2 k02 k01;obtain⟨r0,r1,r2,r0f,r1f,r2f,rz⟩:=bG3.c3;obtain⟨s0,s1,s2,s3,s4,s5⟩:=blk5 bX;have hw0:w.heap.size≤w3.heap.size:=k03.size;rcases hop.out with h0|h0|h0|h0|h0
   ·exact K1z1
   ·exact K1z1
   ·subst h0;obtain⟨xn,hxn,hxl⟩:=hjx.out (.inl rfl);obtain⟨yn,hyn,hyl⟩:=hjy.out rfl;have HR:=(HE2 rfl).out;rw[hxn] at HR s1;rw[hyn] at HR s2;have e1:((xn:Int)).toNat=xn:=om;have e2:((yn:Int)).toNat=yn:=om;rw[e1,e2] at HR;have HC:=IH l (seen++[pc]) xn w3 A B2 c d2 hS2.out hf2.out hxl hls2.out (by rw[←hL1.out];exact hA3.out) (by rw[←hL3.out];exact hB3.out) hAB2.out hsm2.out X3
    rw[←hL1.out,←hL3.out] at HC;have g1:=addR_ok (G:=insL hs) f (l,seen++[pc]) xn (by rw[insL_len];exact hS2.out);have g2:=addR_seen (insL hs) f (l,seen++[pc]) xn;have g3:=addR_len (insL hs) f (l,seen++[pc]) xn;rw[insL_len] at g1;have hf3:=hf2.out;have hls3:=hls2.out
    simp only at g2 g3
    generalize addR (insL hs) f (l,seen++[pc]) xn=r at *;obtain⟨r1l,r1s⟩:=r
    simp only at g1 g2 g3 HC HR
    have IHy:=fun(w:World) (A B:Option Addr) (c d:Nat)=>IH r1l r1s yn w A B c d g1 om hyl om;have hr6:∀i∈r1s,i<1000000:=fun i hi=>by have:=g1.2 i hi;omega
    replace hr6:=lh hr6
    rw[←HR,←hR1.out,←hR2.out] at IHy;obtain⟨M1,hM1⟩:∃M1,M1=castL r1l:=⟨_,rfl⟩;obtain⟨M2,hM2⟩:∃M2,M2=castL r1s:=⟨_,rfl⟩
    rw[←hM1,←hM2] at HC IHy;clear HR HE2 HE3 HE4 HEE IH hR1 hR2 e1 e2 g1 g2 g3 hM1 hM2 hf3 hls3
    go_wp2_with fail
    refine HC.out.mono ?_;rintro e w4 ⟨A4,c4,B4,d4,rfl,H4⟩;have k34:=k03.chain H4.kp (fun b hb=>(hb2w.out b hb).2.2);have bG4:=H4.kp.blk bG3 (fun e=>(hb2w.out _ e).1 rfl);have bX4:=H4.kp.blk bX (fun e=>by have:=(hb2w.out _ e).2.1;omega);have X4:=X3.thenP H4.kp (fun b hb=>by
     rcases hb with h|h
     ·exact OwnS.row hA3.out b h
     ·exact OwnS.row hB3.out b h)
    have hw4:=H4.kp.size;have HC2:=IHy w4 A4 B4 c4 d4 H4.l H4.s H4.ap hr6.out X4;clear r0 r1 r2 r0f r1f r2f rz s0 s1 s2 s3 s4 s5 IHy;obtain⟨r0,r1,r2,r0f,r1f,r2f,rz⟩:=bG4.c3;obtain⟨s0,s1,s2,s3,s4,s5⟩:=blk5 bX4;rw[hyn] at s2;have H4H:=lh H4;clear H4
    go_wp2_with fail
    refine HC2.out.mono ?_;rintro e w5 ⟨A5,c5,B5,d5,rfl,H5⟩
    go_wp2_with fail
    go_ret2
    have ha4:∀b,A4.map (·.block)=some b→A.map (·.block)=some b∨w.heap.size≤b:=fun b hb=>by
     rcases H4H.out.na b hb with h|h
     ·exact .inl h
     ·exact .inr om
    have hb4:∀b,B4.map (·.block)=some b→B.map (·.block)=some b∨w.heap.size≤b:=fun b hb=>by
     rcases H4H.out.nb b hb with h|h
     ·exact K1z3
     ·exact .inr om
    refine⟨A5,c5,B5,d5,rfl,H5.l,H5.s,H5.ap,k34.chain H5.kp (fun b hb=>by
     rcases hb with h|h
     ·exact(ha4 b h).imp .inl id
     ·exact(hb4 b h).imp .inr id),fun b hb=>?_,fun b hb=>?_⟩
    ·rcases H5.na b hb with h|h
     ·exact ha4 b h
     ·exact .inr om
    ·rcases H5.nb b hb with h|h
     ·exact hb4 b h
     ·exact .inr om
   ·subst h0;obtain⟨xn,hxn,hxl⟩:=hjx.out (.inr rfl);have HR:=(HE3 rfl).out;rw[hxn] at HR s1;have HC:=IH l (seen++[pc]) xn w3 A B2 c d2 hS2.out hf2.out hxl hls2.out (by rw[←hL1.out];exact hA3.out) (by rw[←hL3.out];exact hB3.out) hAB2.out hsm2.out X3;have e1:((xn:Int)).toNat=xn:=om;rw[e1] at HR
    rw[←HR,←hL1.out,←hL3.out,←hR1.out,←hR2.out] at HC;clear HR HE2 HE3 HE4 HEE IH e1 hR1 hR2;exact K1z2
   ·subst h0;have hnx:=hjn.out (.inr rfl);have HR:=(HE4 rfl).out;have HC:=IH l (seen++[pc]) (pc+1) w3 A B2 c d2 hS2.out hf2.out hnx hls2.out (by rw[←hL1.out];exact hA3.out) (by rw[←hL3.out];exact hB3.out) hAB2.out hsm2.out X3
    rw[←HR,←hL1.out,←hL3.out,←hR1.out,←hR2.out] at HC;have ewp:IntKind.i64.wrap ((pc:Int)+1)=((pc+1:Nat):Int):=wj;have ecp:((pc+1:Nat):Int)=(pc:Int)+1:=om;rw[ecp] at HC;clear HR HE2 HE3 HE4 HEE IH hR1 hR2 ewp ecp;exact K1z2
end
section
open Go.RowKit
attribute [local go_sem ↓] Go.wp_at_zero Go.wp_at_succ
theorem cutD_take {G:List Ins}:∀{l:List Nat} {k:Nat} (hk:k<l.length),(∀j (hj:j<l.length),j<k→isD G l[j]=false)→isD G l[k]=true→cutD G l=l.take (k+1)
 | p::r,0,_,_,h=>by
  unfold cutD;have h':isD G p=true:=h;rw[if_pos h'];rfl
 | p::r,k+1,hk,h0,h=>by
  unfold cutD;have h1:isD G p=false:=h0 0 si om;rw[h1];simp only[Bool.false_eq_true,if_false];rw[cutD_take (l:=r) (k:=k) (by simpa using hk) (fun j hj hjk=>h0 (j+1) (by simpa using hj) om) h]
  rfl
theorem isD_get {hs:List Hin}{p:Nat}(h:p<hs.length):isD (insL hs) p=decide (hs[p].op=0):=by
 unfold isD;rw[insL_get h];rfl
theorem IL.takeN {w:World}{A:Option Addr}{c:Nat}{xs:List Int}(h:IL w A c xs)(j:Nat):IL w A c (xs.take j):=by
 have h1:=h.le;refine⟨by simp;omega,h.cap,fun x hx=>h.rng x (List.mem_of_mem_take hx),fun hn=>?_⟩;obtain⟨b,o,rfl,hc⟩:=h.at_ (by rintro rfl;simp at hn);refine⟨b,o,rfl,fun i hi=>?_⟩;rw[List.getElem_take];exact hc i (by simp at hi;omega)
theorem castL_take (l:List Nat)(k:Nat):(castL l).take k=castL (l.take k):=by simp[castL]
theorem castL_get {l:List Nat}{k:Nat}(h:k<l.length):(castL l)[k]'(by rw[castL_len];exact h)=(l[k]:Int):=by simp[castL]
def blkO (A:Option Addr):List Nat:=(A.map (·.block)).toList
theorem blkO_mem {A:Option Addr}{b:Nat}:b∈blkO A↔A.map (·.block)=some b:=by unfold blkO;simp
theorem Kp.thenQ {L:List Nat}{p:Nat→Prop}{a b c:World}(h:Kp L a b)(k:KpP p b c)(hp:∀i,p i→i∈L∨a.heap.size≤i):Kp L a c:=
 ⟨k.os.trans h.os,k.tape.trans h.tape,k.output.trans h.output,Nat.le_trans h.size k.size,fun i hi hn=>(k.block i (Nat.lt_of_lt_of_le hi h.size) (fun hm=>by
  rcases hp i hm with h1|h1
  ·exact hn h1
  ·omega)).trans (h.block i hi hn)⟩
def stUp (G:List Ins)(N:Nat)(fs:List Nat)(i:Nat):List Nat×List Nat:=(fs.take i).foldl (addR G N) ([],[])
theorem stUp_succ {G:List Ins}{N:Nat}{fs:List Nat}{i:Nat}(h:i<fs.length):stUp G N fs (i+1)=addR G N (stUp G N fs i) fs[i]:=by
 unfold stUp;rw[List.take_succ_eq_append_getElem h,List.foldl_append];rfl
theorem stUp_all {G:List Ins}{fs:List Nat}:stateG G fs=cutD G (stUp G (G.length+1) fs fs.length).1:=by
 unfold stateG listR stUp;rw[List.take_length]
def RetSt (s:List Nat)(w:World)(e:Ending)(w':World):Prop:=∃(A:Option Addr) (c:Nat),e=.returned (.slice A (castL s).length c)∧IL w' A c (castL s)∧Ext w w'∧Fr w A
structure StI (a0:World)(G:List Ins)(r:List Nat×List Nat)(A:Option Addr)(c:Nat)(B:Option Addr)(d:Nat)(w:World):Prop where
 l:OwnI w a0.heap.size 3 A c (castL r.1)
 s:OwnI w a0.heap.size 3 B d (castL r.2)
 ap:∀b,A.map (·.block)=some b→B.map (·.block)≠some b
 ok:SeenOk G.length r.2
 len:r.1.length≤r.2.length
theorem state_any (gA:Option Addr)(gc:Nat)(hs:List Hin)(runes:Bool)(caps:Int)(hG:GOk runes caps (insL hs))(w:World)(hP:PL w gA gc hs)(F:Option Addr)(fc:Nat)(fs:List Nat)(hF:IL w F fc (castL fs))(hfs:∀i∈fs,i<hs.length) :
 Calls Tryz.prog 40 #[progV gA hs.length gc caps runes,.slice F (castL fs).length fc] w (RetSt (stateG (insL hs) fs) w):=by
 have hcap:=hP.len;have hcF:=hF.len;have HLF:=lh (castL_len fs);have bG:=Blk.new w 33 #[.slice gA hs.length gc,.int .i64 caps,.bool runes];have eG:=Ext.alloc w (.cells #[.slice gA hs.length gc,.int .i64 caps,.bool runes] 33);have hwlt:w.heap.size<(w.alloc (.cells #[.slice gA hs.length gc,.int .i64 caps,.bool runes] 33)).heap.size:=by simp
 unfold progV;have HADD:=fun(a0:World) (h:PL a0 gA gc hs) f l seen pc w A B c d h1 h2 h3 h4 h5 h6 h7 h8 h9=>lh (add12_any a0 gA gc hs runes caps hG h f l seen pc w A B c d h1 h2 h3 h4 h5 h6 h7 h8 h9);unfold progV at HADD;obtain⟨S,hS⟩:∃S,S=stateG (insL hs) fs:=⟨_,rfl⟩
 rw[←hS];have HS:=lh hS;clear hS;have HG:=lh hG;have HFS:=lh hfs;clear hG hfs;go_enter Tryz.func40,Tryz.ntmps40
 go_upto_region 4 with fail
 have hP0:=hP.ext eG;have hF0:=hF.ext eG;generalize w.alloc (.cells #[.slice gA hs.length gc,.int .i64 caps,.bool runes] 33)=w0 at *;have hal:(castL fs).length=fs.length:=castL_len fs;have HAL:=lh hal;clear hal;generalize hfn:(castL fs).length=fn at *;replace hfn:=lh hfn
 go_loopw [5,6,7] (fun v5 v6 v7 wr=>∃(i:Nat) (A:Option Addr) (c:Nat) (B:Option Addr) (d:Nat),v7=.int .i64 i∧i≤fn∧v5=.slice A (castL (stUp (insL hs) (hs.length+1) fs i).1).length c∧v6=.slice B (castL (stUp (insL hs) (hs.length+1) fs i).2).length d∧
  Hid (StI w0 (insL hs) (stUp (insL hs) (hs.length+1) fs i) A c B d wr)∧Ext w0 wr) (fun _ _ v _=>fn-(intOf v).toNat)
 case atStart=>exact⟨0,none,0,none,0,rfl,om,rfl,rfl,lh ⟨OwnS.nil _ _ _ _,OwnS.nil _ _ _ _,by simp,SeenOk.nil _,Nat.le_refl _⟩,Ext.rfl' _⟩
 case round=>
  obtain⟨i,A,c,B,d,rfl,hi,rfl,rfl,HI,x1⟩:=hrel;by_cases hlt:i<fn
  ·have hiI:(i:Int)<fn:=om;have hif:i<fs.length:=by rw[←HAL.out];exact hlt
   have hil:i<(castL fs).length:=by rw[castL_len];exact hif
   obtain⟨fb,fo,rfl,f0⟩:=hF0.get hil;rw[castL_get hif] at f0;have hpc:=HFS.out _ (List.getElem_mem hif);have HR:=lh (stUp_succ (G:=insL hs) (N:=hs.length+1) hif);have HN:=lh (insL_len hs);generalize stUp (insL hs) (hs.length+1) fs i=r at *;have HC:=fun(w':World) (h1:OwnI w' w0.heap.size 3 A c (castL r.1)) (h2:OwnI w' w0.heap.size 3 B d (castL r.2)) (h3:Ext w0 w')=>HADD w0 hP0 (hs.length+1) r.1 r.2 fs[i] w' A B c d (by rw[←HN.out];exact HI.out.ok) om hpc HI.out.len h1 h2 HI.out.ap (fun j hj=>by
    have h4:=HI.out.ok.2 j hj;have h5:=HG.out.len;omega) h3
   rw[←HR.out] at HC;generalize fs[i]=pn at *;have hLB:∀b∈blkO A++blkO B,w0.heap.size≤b∧b<wr.heap.size:=fun b hb=>by
    rcases List.mem_append.1 hb with h|h
    ·have h:=blkO_mem.1 h;exact⟨OwnS.row HI.out.l b h,(OwnS.blt HI.out.l h).1⟩
    ·have h:=blkO_mem.1 h;exact⟨OwnS.row HI.out.s b h,(OwnS.blt HI.out.s h).1⟩
   have hTW:∀b,two A B b→b∈blkO A++blkO B:=fun b hb=>by
    rcases hb with h|h
    ·exact List.mem_append_left _ (blkO_mem.2 h)
    ·exact List.mem_append_right _ (blkO_mem.2 h)
   have hl1:=HI.out.l;have hl2:=HI.out.s;have HIl:=lh hl1;have HIs:=lh hl2;clear hl1 hl2;obtain⟨L1,hL1⟩:∃L1,L1=castL r.1:=⟨_,rfl⟩;obtain⟨L2,hL2⟩:∃L2,L2=castL r.2:=⟨_,rfl⟩
   rw[←hL1,←hL2] at HC ⊢
   rw[←hL1] at HIl
   rw[←hL2] at HIs;obtain⟨R1,hR1⟩:∃R1,R1=castL (stUp (insL hs) (hs.length+1) fs (i+1)).1:=⟨_,rfl⟩;obtain⟨R2,hR2⟩:∃R2,R2=castL (stUp (insL hs) (hs.length+1) fs (i+1)).2:=⟨_,rfl⟩
   rw[←hR1,←hR2] at HC;replace hR1:=lh hR1;replace hR2:=lh hR2;replace HC:=lh HC;have HOK:=lh (show SeenOk (insL hs).length (stUp (insL hs) (hs.length+1) fs (i+1)).2∧(stUp (insL hs) (hs.length+1) fs (i+1)).1.length≤(stUp (insL hs) (hs.length+1) fs (i+1)).2.length by
    rw[HR.out];refine⟨addR_ok _ _ _ HI.out.ok,?_⟩;have:=addR_len (insL hs) (hs.length+1) r pn;have:=HI.out.len;omega)
   clear hL1 hL2 HR;generalize hLL:blkO A++blkO B=LL at *;clear hLL;have hfb:fb<w0.heap.size:=World.block_lt_of_cell? _ _ f0;have bG1:=bG.ext x1;obtain⟨r0,r1,r2,r0f,r1f,r2f,rz⟩:=bG1.c3;have f1:=x1.cell f0;have n1:w.heap.size∉LL:=fun h=>by have:=(hLB _ h).1;omega
   have n2:fb∉LL:=fun h=>by have:=(hLB _ h).1;omega
   have k0:=fun(w':World) (h:Kp LL wr w')=>h.cell r0 n1;have k1:=fun(w':World) (h:Kp LL wr w')=>h.cell r1 n1;have k2:=fun(w':World) (h:Kp LL wr w')=>h.cell r2 n1;have k3:=fun(w':World) (h:Kp LL wr w')=>h.cell f1 n2;clear r0 r1 r2 r0f r1f r2f f0 f1 hpc hif hil;have hLB2:=lh hLB;have hTW2:=lh hTW;clear hLB hTW HI
   go_wp2_with fail
   refine Xr.start LL kr ?_;refine Xtk 0 ?_
   iterate 6(refine Xtn ?_)
   refine Xsp 7 fun w2 hE2 hK2 K hKK=>?_;go_simp;refine(HC.out w2 (OwnS.ext HIl.out hE2) (OwnS.ext HIs.out hE2) (x1.trans hE2)).out.mono ?_;rintro e w3 ⟨A',c',B',d',rfl,H⟩;refine hKK _ _ (KpP.mono H.kp (fun b hb=>.inl (hTW2.out b hb))) (hK2.thenQ H.kp (fun b hb=>.inl (hTW2.out b hb))) ?_;clear hKK;refine ptm ?_;refine Xtk 8 ?_
   iterate 4(refine Xtn ?_)
   refine Xdn fun w4 hE4 hK4=>?_;have x4:Ext w0 w4:=hK4.to_ext x1 (fun b hb=>(hLB2.out b hb).1);have HI4:=lh (show StI w0 (insL hs) (stUp (insL hs) (hs.length+1) fs (i+1)) A' c' B' d' w4 from⟨by rw[←hR1.out];exact OwnS.ext H.l hE4,by rw[←hR2.out];exact OwnS.ext H.s hE4,H.ap,HOK.out.1,HOK.out.2⟩);clear k0 k1 k2 k3 HC HIl HIs hE2 hK2 hE4 hK4 H HOK n1 n2 bG1 rz
   go_wp2_with fail
   go_roundw
   case rel=>exact⟨i+1,A',c',B',d',by go_num,om,by rw[hR1.out],by rw[hR2.out],HI4,x4⟩
   case measure=>simp[intOf];omega
  ·obtain⟨wz,hwz⟩:∃wz,wz=wr:=⟨_,rfl⟩;subst hwz;have hie:i=fn:=om;have hiI:¬(i:Int)<fn:=om;have hfl:fn=fs.length:=HAL.out;have HSA:=lh (show S=cutD (insL hs) (stUp (insL hs) (hs.length+1) fs i).1 by rw[HS.out,stUp_all,insL_len,hie,hfl]);have HIN:=lh (show ∀p∈(stUp (insL hs) (hs.length+1) fs i).1,p<hs.length from fun p hp=>by
    obtain⟨h,_⟩:=foldR_in (insL hs) (hs.length+1) (fs.take i) ([],[]) si p hp
    rwa [insL_len] at h)
   clear hie hfl HADD;generalize stUp (insL hs) (hs.length+1) fs i=r at *;obtain⟨l,sn⟩:=r
   simp only at HSA HIN ⊢
   have hgl:=HG.out.len;rw[insL_len] at hgl;have hil:IL wz A c (castL l):=IL.of_own HI.out.l (castL_i64 (fun p hp=>by have:=HIN.out p hp;omega));have hrow:=OwnS.row HI.out.l;have HROW:=lh hrow;have hcl:=castL_len l;obtain⟨L1,hL1⟩:∃L1,L1=castL l:=⟨_,rfl⟩
   rw[←hL1] at hil hcl ⊢;have HL1:=lh hL1;have HCL:=lh hcl;have hcil:=hil.len;have bG1:=bG.ext x1;have hP1:=(hP0.ext x1);clear HI hrow hL1 hcl
   go_upto_region 8 with fail
   go_loopw [8] (fun v wq=>∃k:Nat,v=.int .i64 k∧k≤L1.length∧Hid (∀j (hj:j<l.length),j<k→isD (insL hs) l[j]=false)∧Ext wz wq) (fun v _=>L1.length-(intOf v).toNat)
   case atStart=>exact⟨0,rfl,om,lh (fun j _ h=>om),Ext.rfl' _⟩
   case round=>
    obtain⟨k,rfl,hk,hno,y1⟩:=hrel;have bG2:=bG1.ext y1;obtain⟨r0,r1,r2,r0f,r1f,r2f,rz⟩:=bG2.c3;by_cases hkt:k<L1.length
    ·have hkI:(k:Int)<L1.length:=om;have hkl:k<l.length:=by rw[←HCL.out];exact hkt
     obtain⟨lb,lo,hAe,g0⟩:=(hil.ext y1).get hkt;have hge:L1[k]=(l[k]:Int):=by
      have:=castL_get hkl;simp only[HL1.out];exact this
     have hpn:=HIN.out _ (List.getElem_mem hkl);have hwf:=hil.wf hkt;rw[hge] at g0 hwf;obtain⟨pb,po,hge2,c0,c1,c2,c3,c4⟩:=(hP1.ext y1).get hpn;have HD:=fun(h:isD (insL hs) l[k]=true)=>lh (cutD_take hkl hno.out h);have HDN:=fun(h:isD (insL hs) l[k]=false)=>lh (show ∀j (hj:j<l.length),j<k+1→isD (insL hs) l[j]=false from fun j hj hjk=>by
      rcases Nat.lt_or_ge j k with h1|h1
      ·exact hno.out j hj h1
      ·have:j=k:=om;subst this;exact h)
     have hiD:=isD_get hpn;have hpI:(l[k]:Int)<hs.length:=om;have hpI0:(0:Int)≤(l[k]:Int):=om;generalize l[k]=pn at *;rw[hiD] at HD HDN;generalize hs[pn]=hh at *;obtain⟨zop,zx,zy,zn,zA,zc,zl⟩:=hh
     simp only at c0 HD HDN
     clear c1 c2 c3 c4 hge hiD hpn hwf;subst hAe;have k0:=kc0 r0;have k1:=kc0 g0;have k2:=kc0 c0;have hge3:=hge2;subst hge2;by_cases hz:zop=0
     ·have hz2:(zop == 0)=true:=by simp[hz]
      have HCT:=(HD (decide_eq_true hz)).out;have HST:=lh (show castL S=L1.take (k+1) by rw[HSA.out,HCT,HL1.out,castL_take]);have hcap2:(k:Int)+1≤c:=om;have HLT:=lh (show(L1.take (k+1)).length=k+1 by rw[List.length_take];omega);clear HD HDN hz HCT
      go_wp2_with fail
      refine Xr.start [] kr ?_;refine Xtk 0 ?_
      iterate 9(refine Xtn ?_)
      refine Xdn fun w4 hE4 hK4=>?_;have y4:=y1.trans hK4.nil;clear k0 k1 k2
      go_wp2_with fail
      go_ret
      unfold RetSt;rw[HST.out];exact⟨_,c,by rw[HLT.out];rfl,(hil.ext y4).takeN _,(eG.trans x1).trans y4,fun b hb=>by have:=HROW.out b hb;omega⟩
     ·have hz2:(zop == 0)=false:=by simp[hz]
      have HNO:=HDN (decide_eq_false hz);clear HD HDN hz
      go_wp2_with fail
      refine Xr.start [] kr ?_;refine Xtk 0 ?_
      iterate 9(refine Xtn ?_)
      refine Xdn fun w4 hE4 hK4=>?_;have y4:=y1.trans hK4.nil;clear k0 k1 k2
      go_wp2_with fail
      go_roundw
      case rel=>exact⟨k+1,by go_num,om,HNO,y4⟩
      case measure=>simp[intOf];omega
    ·have hkI:¬(k:Int)<L1.length:=om;have HST:=lh (show castL S=L1 by
      rw[HSA.out,cutD_none (fun p hp=>by
       obtain⟨j,hj,rfl⟩:=List.mem_iff_getElem.1 hp;exact hno.out j hj (by have:=HCL.out;omega)),HL1.out])
     go_wp2_with fail
     go_ret
     unfold RetSt;rw[HST.out];exact⟨A,c,rfl,hil.ext y1,(eG.trans x1).trans y1,fun b hb=>by have:=HROW.out b hb;omega⟩
end
section
open Go.RowKit
attribute [local go_sem ↓] Go.wp_at_zero Go.wp_at_succ
theorem K3z1 {P:Prop} (h:P:=by
 refine Xr.start [] kr ?_;refine Xtk 0 ?_
 iterate 3(refine Xtn ?_)
 iterate 12(first|refine Xtn ?_|refine Xsn ?_)
 iterate 2(refine Xtn ?_)
 refine Xdn fun w4 hE4 hK4=>?_
 go_wp2_with fail
 go_ret
 exact⟨rfl,eG.trans hK4.nil⟩):P:=h
theorem done_any (gA:Option Addr)(gc:Nat)(hs:List Hin)(runes:Bool)(caps:Int)(w:World)(hP:PL w gA gc hs)(A:Option Addr)(c:Nat)(l:List Nat)(hL:IL w A c (castL l))(hl:∀p∈l,p<hs.length) :
 Calls Tryz.prog 88 #[progV gA hs.length gc caps runes,.slice A (castL l).length c] w (RetV (.bool (doneG (insL hs) l)) w):=by
 have hcap:=hP.len;have hcF:=hL.len;have bG:=Blk.new w 33 #[.slice gA hs.length gc,.int .i64 caps,.bool runes];have eG:=Ext.alloc w (.cells #[.slice gA hs.length gc,.int .i64 caps,.bool runes] 33);unfold progV;rcases List.eq_nil_or_concat l with rfl|⟨u,p,rfl⟩
 ·have HD:=lh (show doneG (insL hs) []=false from rfl);rw[HD.out];have e0:(castL []).length=0:=rfl;rw[e0];clear hL hl hcF e0;go_enter Tryz.func88,Tryz.ntmps88
  go_upto_region 1 with fail
  have hP0:=hP.ext eG;obtain⟨r0,r1,r2,r0f,r1f,r2f,rz⟩:=bG.c3;generalize w.alloc (.cells #[.slice gA hs.length gc,.int .i64 caps,.bool runes] 33)=w0 at *;exact K3z1
 ·have hp:=hl p si;have HD:=lh (show doneG (insL hs) (u.concat p)=decide (hs[p].op=0) by
   unfold doneG;rw[List.concat_eq_append,List.getLast?_append];simp only[List.getLast?_singleton,Option.some_or];exact isD_get hp)
  rw[HD.out];have hlen:(castL (u.concat p)).length=u.length+1:=by simp[castL]
  have HLN:=lh hlen;obtain⟨lb,lo,rfl,g0⟩:=hL.get (k:=u.length) om;have hge:(castL (u.concat p))[u.length]'om=(p:Int):=by simp[castL]
  rw[hge] at g0;obtain⟨pb,po,rfl,c0,c1,c2,c3,c4⟩:=hP.get hp;rw[HLN.out];rw[HLN.out] at hcF;clear hge hlen HLN;generalize u.length=m at *;have hwm:IntKind.i64.wrap ((m:Int)+1-1)=(m:Int):=wj;have hwm2:IntKind.i64.wrap (m:Int)=(m:Int):=wj;have hm1:(m:Int)<(m:Int)+1:=om;have hm2:(m:Int)+1>0:=om;have hm3:(0:Int)<(m:Int)+1:=om;have hpI:(p:Int)<hs.length:=om;clear hl hL;generalize hs[p]=hh at *;obtain⟨zop,zx,zy,zn,zA,zc,zl⟩:=hh
  simp only at c0 ⊢
  clear c1 c2 c3 c4;go_enter Tryz.func88,Tryz.ntmps88
  go_upto_region 1 with fail
  have c0':=eG.cell c0;have g0':=eG.cell g0;obtain⟨r0,r1,r2,r0f,r1f,r2f,rz⟩:=bG.c3;generalize w.alloc (.cells #[.slice (some ⟨pb,po,none⟩) hs.length gc,.int .i64 caps,.bool runes] 33)=w0 at *;have k0:=kc0 r0;have k1:=kc0 g0';have k2:=kc0 c0';exact K3z1
end
section
open Go.RowKit
attribute [local go_sem ↓] Go.wp_at_zero Go.wp_at_succ
def nxUp (G:List Ins)(c:Int)(l:List Nat)(i:Nat):List Nat:=((l.take i).filter (symAt G c)).map (·+1)
theorem nxUp_yes {G:List Ins}{c:Int}{l:List Nat}{i:Nat}(h:i<l.length)(hs:symAt G c l[i]=true):nxUp G c l (i+1)=nxUp G c l i++[l[i]+1]:=by
 unfold nxUp;rw[List.take_succ_eq_append_getElem h,List.filter_append,List.map_append];simp[hs]
theorem nxUp_no {G:List Ins}{c:Int}{l:List Nat}{i:Nat}(h:i<l.length)(hs:symAt G c l[i]=false):nxUp G c l (i+1)=nxUp G c l i:=by
 unfold nxUp;rw[List.take_succ_eq_append_getElem h,List.filter_append,List.map_append];simp[hs]
theorem nxUp_all (G:List Ins)(c:Int)(l:List Nat):nextG G l c=stateG G (nxUp G c l l.length):=by
 unfold nextG nxUp;rw[List.take_length]
theorem nxUp_len (G:List Ins)(c:Int)(l:List Nat)(i:Nat):(nxUp G c l i).length≤i:=by
 unfold nxUp;rw[List.length_map];exact Nat.le_trans (List.length_filter_le _ _) (by rw[List.length_take];omega)
theorem symAt_get {hs:List Hin}{p:Nat}(h:p<hs.length)(c:Int):symAt (insL hs) c p=(decide (hs[p].op=1)&&has hs[p].l c):=by
 unfold symAt;rw[insL_get h];rfl
theorem nxUp_lt {hs:List Hin}{runes:Bool}{caps:Int}(hG:GOk runes caps (insL hs)){c:Int}{l:List Nat}(hl:∀p∈l,p<hs.length)(i:Nat):∀q∈nxUp (insL hs) c l i,q<hs.length:=by
 intro q hq;unfold nxUp at hq;obtain⟨p,hp,rfl⟩:=List.mem_map.1 hq;obtain⟨hp1,hp2⟩:=List.mem_filter.1 hp;have hpl:=hl p (List.mem_of_mem_take hp1);rw[symAt_get hpl] at hp2;simp only[Bool.and_eq_true,decide_eq_true_eq] at hp2;have:=hG.next (k:=p) (by rw[insL_len];exact hpl) (by rw[insL_getElem];exact .inl hp2.1)
 rwa [insL_len] at this
theorem K4z1 {P:Prop} (h:P:=by
 go_wp2_with fail
 go_roundw
 case rel=>exact⟨i+1,B,d,by go_num,om,by rw[HU2.out],by rw[HU2.out];exact HB5,X5⟩
 case measure=>simp[intOf];omega):P:=h
theorem next_any (gA:Option Addr)(gc:Nat)(hs:List Hin)(runes:Bool)(caps:Int)(hG:GOk runes caps (insL hs))(w:World)(hP:PL w gA gc hs)(A:Option Addr)(c:Nat)(l:List Nat)(hL:IL w A c (castL l))(hl:∀p∈l,p<hs.length)(hll:l.length≤8192)(x:Int) :
 Calls Tryz.prog 77 #[progV gA hs.length gc caps runes,.slice A (castL l).length c,.int .i64 x] w (RetSt (nextG (insL hs) l x) w):=by
 have hcap:=hP.len;have hcF:=hL.len;have HAL:=lh (castL_len l);have bG:=Blk.new w 33 #[.slice gA hs.length gc,.int .i64 caps,.bool runes];have eG:=Ext.alloc w (.cells #[.slice gA hs.length gc,.int .i64 caps,.bool runes] 33);have hlt9:=nxUp_lt hG (c:=x) hl;have HST:=fun(w:World) (hP:PL w gA gc hs) F fc fs hF hfs=>lh (state_any gA gc hs runes caps hG w hP F fc fs hF hfs);unfold progV at HST ⊢;obtain⟨S,hS⟩:∃S,S=nextG (insL hs) l x:=⟨_,rfl⟩
 rw[←hS];have HS:=lh hS;have HL9:=lh hlt9;have HLL:=lh hl;have HGL:=lh hG.len;have hll2:(castL l).length≤8192:=by rw[castL_len];exact hll
 clear hS hG hlt9 hl hll;go_enter Tryz.func77,Tryz.ntmps77
 go_upto_region 3 with fail
 have hP0:=hP.ext eG;have hL0:=hL.ext eG;have hsz:w.heap.size<(w.alloc (.cells #[.slice gA hs.length gc,.int .i64 caps,.bool runes] 33)).heap.size:=by simp
 generalize w.alloc (.cells #[.slice gA hs.length gc,.int .i64 caps,.bool runes] 33)=w0 at *;generalize hfn:(castL l).length=fn at *;replace hfn:=lh hfn
 go_loopw [7,8] (fun v7 v8 wr=>∃(i:Nat) (B:Option Addr) (d:Nat),v8=.int .i64 i∧i≤fn∧v7=.slice B (castL (nxUp (insL hs) x l i)).length d∧Hid (OwnI wr w0.heap.size 3 B d (castL (nxUp (insL hs) x l i)))∧Ext w0 wr) (fun _ v _=>fn-(intOf v).toNat)
 case atStart=>exact⟨0,none,0,rfl,om,rfl,lh (OwnS.nil _ _ _ _),Ext.rfl' _⟩
 case round=>
  obtain⟨i,B,d,rfl,hi,rfl,HB,x1⟩:=hrel;by_cases hlt:i<fn
  ·have hiI:(i:Int)<fn:=om;have hil:i<l.length:=by rw[←HAL.out];exact hlt
   have hlen2:i<(castL l).length:=by rw[castL_len];exact hil
   obtain⟨fb,fo,rfl,f0⟩:=(hL0.ext x1).get hlen2;rw[castL_get hil] at f0;have hpc:=HLL.out _ (List.getElem_mem hil);have HY:=fun h=>lh (nxUp_yes (G:=insL hs) (c:=x) hil h);have HN:=fun h=>lh (nxUp_no (G:=insL hs) (c:=x) hil h);rw[symAt_get hpc] at HY HN;have HUL:=nxUp_len (insL hs) x l i;obtain⟨pb,po,rfl,c0,c1,c2,c3,c4⟩:=(hP0.ext x1).get hpc;have hsl:=(hP0.ext x1).sl _ (List.getElem_mem hpc);have hpI:(l[i]:Int)<hs.length:=om;have hpI0:(0:Int)≤(l[i]:Int):=om;have hp8:l[i]<1000000:=by have:=HGL.out;rw[insL_len] at this;omega
   generalize l[i]=pn at *;generalize hs[pn]=hh at *;obtain⟨zop,zx,zy,zn,zA,zc,zl⟩:=hh
   simp only at c0 c1 c2 c3 c4 hsl HY HN
   obtain⟨U,hU⟩:∃U,U=castL (nxUp (insL hs) x l i):=⟨_,rfl⟩;have hUl:U.length≤8192:=by rw[hU,castL_len];omega
   rw[←hU] at HB ⊢;replace hU:=lh hU;have bG1:=bG.ext x1;obtain⟨r0,r1,r2,r0f,r1f,r2f,rz⟩:=bG1.c3;have k0:=kc0 r0;have k1:=kc0 f0;have k2:=kc0 c0;have k3:=kc0 c1;have k4:=kc0 c2;have k5:=kc0 c3;have k6:=kc0 c4;clear HUL
   go_upto_region 5 with fail
   refine Xr.start [] kr ?_;refine Xtk 0 ?_
   iterate 7(refine Xtn ?_)
   refine Xr.lazy 8 9 9 (fun g=>.pointer (some ⟨g,0,none⟩)) 123 #[.int .i64 0,.int .i64 0,.int .i64 0,.int .i64 0,.slice none 0 0] rfl si dK si (fun w'=>by go_simp) ?_;refine Xr.stepZ rfl dK (fun _=>by rfl) (fun w2 gx hE2 hK2 hgx hx _ K hKK=>?_);obtain⟨s0,s1,s2,s3,s4,s5⟩:=blk5 hx;have t0:=hx.frz 0;have t1:=hx.frz 1;have t2:=hx.frz 2;have t3:=hx.frz 3;have t4:=hx.frz 4;go_simp;refine hKK _ _ (WI_set (WI_set (WI_set (WI_set (WI_set (WI_refl _ _ _) 0 _) 1 _) 2 _) 3 _) 4 _) (Kp.setN (Kp.setN (Kp.setN (Kp.setN (Kp.setN hK2 hgx 0 _) hgx 1 _) hgx 2 _) hgx 3 _) hgx 4 _) ?_;have bx5:=((((hx.set 0 (.int .i64 zop)).set 1 (.int .i64 zx)).set 2 (.int .i64 zy)).set 3 (.int .i64 zn)).set 4 (.slice zA zl.length zc);simp only[List.setIfInBounds_toArray,List.set_cons_zero,List.set_cons_succ] at bx5;clear hKK s0 s1 s2 s3 s4 s5 t0 t1 t2 t3 t4 hx;refine ptm ?_;generalize ((((w2.setCell ⟨gx,0,none⟩ (.int .i64 zop)).setCell ⟨gx,1,none⟩ (.int .i64 zx)).setCell ⟨gx,2,none⟩ (.int .i64 zy)).setCell ⟨gx,3,none⟩ (.int .i64 zn)).setCell ⟨gx,4,none⟩ (.slice zA zl.length zc)=w3 at *;refine Xdn fun w4 hE4 hK4=>?_;have bx:=bx5.ext hE4;have y4:=hK4.nil;obtain⟨s0,s1,s2,s3,s4,s5⟩:=blk5 bx;have HB4:=lh (OwnS.ext HB.out y4);have X4:=x1.trans y4;have HH:=lh (gHas_any zA zc zl x w4 (hsl.ext y4));have g4:=y4.cell f0;clear k0 k1 k2 k3 k4 k5 k6 hE2 hK2 hE4 hK4 bx5 hgx bG1 r0 r1 r2 r0f r1f r2f rz c0 c1 c2 c3 c4 f0 HB;by_cases hhs:has zl x=true
   ·rw[hhs] at HH HY HN;by_cases hop:zop=1
    ·have hop2:(zop == 1)=true:=by simp[hop]
     have HYY:=HY (by simp[hop]);have HU2:=lh (show castL (nxUp (insL hs) x l (i+1))=U++[((pn+1:Nat):Int)] by rw[HYY.out,castL_snoc,hU.out]);have ewp:IntKind.i64.wrap ((pn:Int)+1)=(pn:Int)+1:=wj;have ecp:((pn+1:Nat):Int)=(pn:Int)+1:=om;rw[ecp] at HU2;clear HY HN hop HYY ecp
     go_wp2_with fail
     refine HH.out.mono ?_;rintro e w5 ⟨rfl,x5⟩;have s0':=x5.cell s0;have g5:=x5.cell g4;have HB5:=lh (OwnS.ext HB4.out x5);have X5:=X4.trans x5;clear s0 s1 s2 s3 s4 g4 HB4 HH
     go_wp2_with ((at_builtin;refine wpList_app1I rfl _ _ _ rfl 3 infoNk Tryz.underlying22 w0 X5 ((pn:Int)+1) (by first|rfl|simp[ewp]) B d U rfl HB5.out rfl om (castL (nxUp (insL hs) x l (i+1))) HU2.out ?_;intro B2 d2 w6 hoB x6 hgB hatB))
     go_roundw
     case rel=>exact⟨i+1,B2,d2,by go_num,om,rfl,lh hoB,x6⟩
     case measure=>simp[intOf];omega
    ·have hop2:(zop == 1)=false:=by simp[hop]
     have HNN:=HN (by simp[hop]);have HU2:=lh (show castL (nxUp (insL hs) x l (i+1))=U by rw[HNN.out,hU.out]);clear HY HN hop HNN
     go_wp2_with fail
     refine HH.out.mono ?_;rintro e w5 ⟨rfl,x5⟩;have s0':=x5.cell s0;have HB5:=lh (OwnS.ext HB4.out x5);have X5:=X4.trans x5;clear s0 s1 s2 s3 s4 g4 HB4 HH;exact K4z1
   ·have hhs2:has zl x=false:=by simpa using hhs
    rw[hhs2] at HH HY HN;have HNN:=HN si;have HU2:=lh (show castL (nxUp (insL hs) x l (i+1))=U by rw[HNN.out,hU.out]);clear HY HN hhs hhs2 HNN
    go_wp2_with fail
    refine HH.out.mono ?_;rintro e w5 ⟨rfl,x5⟩;have s0':=x5.cell s0;have HB5:=lh (OwnS.ext HB4.out x5);have X5:=X4.trans x5;clear s0 s1 s2 s3 s4 g4 HB4 HH;by_cases hop:zop=1
    ·have hop2:(zop == 1)=true:=by simp[hop]
     clear hop;exact K4z1
    ·have hop2:(zop == 1)=false:=by simp[hop]
     clear hop;exact K4z1
  ·have hiI:¬(i:Int)<fn:=om;have hie:i=l.length:=by have:=HAL.out;omega
   have HSE:=lh (show S=stateG (insL hs) (nxUp (insL hs) x l i) by rw[HS.out,nxUp_all,hie]);have hlt9:=HL9.out i;have HI:=IL.of_own HB.out (castL_i64 (fun p hp=>by
    have h1:=hlt9 p hp;have h2:=HGL.out;rw[insL_len] at h2;omega))
   have HSTA:=HST wr (hP0.ext x1) B d _ HI hlt9
   rw[←HSE.out] at HSTA;obtain⟨r0,r1,r2,r0f,r1f,r2f,rz⟩:=(bG.ext x1).c3;clear hie hlt9 HI HST HSE HS
   go_wp2_with fail
   refine HSTA.out.mono ?_;rintro e w5 ⟨A5,c5,rfl,h5,x5,f5⟩
   go_wp2_with fail
   go_ret
   exact⟨A5,c5,rfl,h5,(eG.trans x1).trans x5,f5.mono (eG.trans x1)⟩
end
section
open Go.RowKit
attribute [local go_sem ↓] Go.wp_at_zero Go.wp_at_succ
structure Hl where
 A:Option Addr
 c:Nat
 l:List Nat
def flatL (hs:List Hl):List Value:=hs.map fun h=>.slice h.A (castL h.l).length h.c
theorem flatL_len (l:List Hl):(flatL l).length=l.length:=by simp[flatL]
structure LN (w:World)(A:Option Addr)(c:Nat)(hs:List Hl):Prop where
 le:hs.length≤c
 cap:c≤maxLen
 il:∀h∈hs,IL w h.A h.c (castL h.l)
 at_:hs≠[]→∃b o,A=some ⟨b,o,none⟩∧∀i (h:i<hs.length),w.cell? ⟨b,o+i,none⟩=some (.slice hs[i].A (castL hs[i].l).length hs[i].c)
namespace LN
variable {w w':World} {A:Option Addr} {c:Nat} {hs:List Hl}
theorem ext (h:LN w A c hs)(k:Ext w w'):LN w' A c hs:=by
 refine⟨h.le,h.cap,fun z hz=>(h.il z hz).ext k,fun hn=>?_⟩;obtain⟨b,o,rfl,hc⟩:=h.at_ hn;exact⟨b,o,rfl,fun i hi=>k.cell (hc i hi)⟩
theorem nil (w:World):LN w none 0 []:=⟨Nat.le_refl _,Nat.zero_le _,by simp,fun h=>absurd rfl h⟩
theorem len (h:LN w A c hs):hs.length≤c∧c≤9223372036854775807:=⟨h.le,by have:=h.cap;unfold maxLen at this;omega⟩
theorem get {k:Nat}(h:LN w A c hs)(hk:k<hs.length):∃b o,A=some ⟨b,o,none⟩∧w.cell? ⟨b,o+k,none⟩=some (.slice hs[k].A (castL hs[k].l).length hs[k].c):=by
 obtain⟨b,o,rfl,hc⟩:=h.at_ (by intro h0;subst h0;simp at hk);exact⟨b,o,rfl,hc k hk⟩
theorem of_own {base T:Nat}(h:OwnS w base T 1 A hs.length c (flatL hs))(hil:∀z∈hs,IL w z.A z.c (castL z.l)):LN w A c hs:=by
 have hc:=OwnS.caps h;refine⟨hc.1,by unfold maxLen;omega,hil,fun hn=>?_⟩;obtain⟨b,o,hA,hcell⟩:=OwnS.cells h (by intro e;have:=flatL_len hs;rw[e] at this;simp at this;exact hn (List.length_eq_zero_iff.1 om));refine⟨b,o,hA,fun i hi=>?_⟩;have:=hcell i (by rw[flatL_len];exact hi)
 simpa[flatL] using this
end LN
def stsOf (hs:List Hl):List (List Nat):=hs.map (·.l)
theorem stsOf_len (hs:List Hl):(stsOf hs).length=hs.length:=by simp[stsOf]
theorem castL_inj:∀{a b:List Nat},castL a=castL b→a=b
 | [],[],_=>rfl
 | [],y::b,h=>by simp[castL] at h
 | x::a,[],h=>by simp[castL] at h
 | x::a,y::b,h=>by
  simp only[castL,List.map_cons,List.cons.injEq] at h;have h1:x=y:=by have:=h.1;omega
  rw[h1,castL_inj (a:=a) (b:=b) h.2]
theorem castL_beq (a b:List Nat):(castL a == castL b)=decide (a=b):=by
 rw[Bool.eq_iff_iff];simp only[beq_iff_eq,decide_eq_true_eq];exact⟨castL_inj,fun e=>by rw[e]⟩
theorem K5z1 {P:Prop} (h:P:=by
 obtain⟨z,hz⟩:∃z,z=hs[k]:=⟨_,rfl⟩
 rw[←hz] at g0 HQ;clear hz he
 go_wp2_with fail
 refine HQ.out.mono ?_;rintro e w2 hq;obtain⟨rfl,x2⟩:=hq.v;clear hq;have xf:=x1.trans x2
 go_wp2_with fail
 go_roundw
 case rel=>exact⟨k+1,by go_num,om,HNO,xf⟩
 case measure=>simp[intOf];omega):P:=h
theorem find_any (A:Option Addr)(c:Nat)(hs:List Hl)(S:Option Addr)(sc:Nat)(s:List Nat)(w:World)(hL:LN w A c hs)(hS:IL w S sc (castL s)) :
 Calls Tryz.prog 90 #[.slice A hs.length c,.slice S (castL s).length sc] w (RetV (.bool (decide (s∈stsOf hs))) w):=by
 have hcap:=hL.len;go_enter Tryz.func90,Tryz.ntmps90
 go_upto_region 2 with fail
 go_loopw [5] (fun v wr=>∃k:Nat,v=.int .i64 k∧k≤hs.length∧Hid (∀j (hj:j<hs.length),j<k→hs[j].l≠s)∧Ext w wr) (fun v _=>hs.length-(intOf v).toNat)
 case atStart=>exact⟨0,rfl,om,lh (fun j _ h=>om),Ext.rfl' _⟩
 case round=>
  obtain⟨k,rfl,hk,hno,x1⟩:=hrel;by_cases hlt:k<hs.length
  ·have hkI:(k:Int)<hs.length:=om;obtain⟨b,o,rfl,g0⟩:=(hL.ext x1).get hlt;have HQ:=lh (sameInts_any hs[k].A S hs[k].c sc (castL hs[k].l) (castL s) wr ((hL.ext x1).il _ (List.getElem_mem hlt)) (hS.ext x1));rw[castL_beq] at HQ;by_cases he:hs[k].l=s
   ·have HR:=lh (show decide (s∈stsOf hs)=true from decide_eq_true (List.mem_map.2 ⟨_,List.getElem_mem hlt,he⟩));rw[decide_eq_true he] at HQ;generalize hs[k]=h at *;clear he
    go_wp2_with fail
    refine HQ.out.mono ?_;rintro e w2 hq;obtain⟨rfl,x2⟩:=hq.v;clear hq
    go_wp2_with fail
    go_ret
    exact⟨by rw[HR.out];rfl,x1.trans x2⟩
   ·have HNO:=lh (show ∀j (hj:j<hs.length),j<k+1→hs[j].l≠s from fun j hj hjk=>by
     rcases Nat.lt_or_ge j k with h1|h1
     ·exact hno.out j hj h1
     ·have:j=k:=om;subst this;exact he)
    rw[decide_eq_false he] at HQ;have hd:=HQ.out;clear hd;exact K5z1
  ·have hkI:¬(k:Int)<hs.length:=om;have HR:=lh (show decide (s∈stsOf hs)=false from decide_eq_false (fun h=>by
    obtain⟨z,hz,he⟩:=List.mem_map.1 h;obtain⟨j,hj,rfl⟩:=List.mem_iff_getElem.1 hz;exact hno.out j hj om he))
   go_wp2_with fail
   go_ret
   exact⟨by rw[HR.out];rfl,x1⟩
def mchV (gA:Option Addr)(n gc:Nat)(caps:Int)(runes:Bool)(SA:Option Addr)(sn sc:Nat)(YA:Option Addr)(yn yc:Nat)(OA:Option Addr)(on oc:Nat):Value:=
 .agg #[.slice gA n gc,.int .i64 caps,.bool runes,.slice SA sn sc,.slice YA yn yc,.slice OA on oc]
def plc (L:List (List Nat))(s:List Nat):Int:=if s∈L then(L.idxOf s:Nat) else -1
theorem plc_at {hs:List Hl}{s:List Nat}{k:Nat}(hk:k<hs.length)(h0:∀j (hj:j<hs.length),j<k→hs[j].l≠s)(h:hs[k].l=s):plc (stsOf hs) s=k:=by
 have hm:s∈stsOf hs:=List.mem_map.2 ⟨_,List.getElem_mem hk,h⟩;unfold plc;rw[if_pos hm];have h1:=List.idxOf_lt_length_of_mem hm;have h2:(stsOf hs)[(stsOf hs).idxOf s]=s:=List.getElem_idxOf h1;have h3:¬(stsOf hs).idxOf s<k:=fun hlt=>by
  rw[stsOf_len] at h1;have:=h0 _ h1 hlt;simp only[stsOf,List.getElem_map] at h2;exact this h2
 have h4:¬k<(stsOf hs).idxOf s:=fun hlt=>by
  have:=List.not_of_lt_findIdx (p:=(· == s)) hlt;simp[stsOf,h] at this
 have:(stsOf hs).idxOf s=k:=om;rw[this]
theorem plc_no {hs:List Hl}{s:List Nat}(h0:∀j (hj:j<hs.length),hs[j].l≠s):plc (stsOf hs) s = -1:=by
 unfold plc;rw[if_neg];intro h;obtain⟨z,hz,he⟩:=List.mem_map.1 h;obtain⟨j,hj,rfl⟩:=List.mem_iff_getElem.1 hz;exact h0 j hj he
theorem place_any (gA:Option Addr)(n gc:Nat)(caps:Int)(runes:Bool)(A:Option Addr)(c:Nat)(hs:List Hl)(YA:Option Addr)(yn yc:Nat)(OA:Option Addr)(on oc:Nat)(S:Option Addr)(sc:Nat)(s:List Nat)(w:World)(hL:LN w A c hs)(hS:IL w S sc (castL s)) :
 Calls Tryz.prog 78 #[mchV gA n gc caps runes A hs.length c YA yn yc OA on oc,.slice S (castL s).length sc] w (RetV (.int .i64 (plc (stsOf hs) s)) w):=by
 have hcap:=hL.len;unfold mchV;have bG:=Blk.new w 53 #[.slice gA n gc,.int .i64 caps,.bool runes,.slice A hs.length c,.slice YA yn yc,.slice OA on oc];have eG:=Ext.alloc w (.cells #[.slice gA n gc,.int .i64 caps,.bool runes,.slice A hs.length c,.slice YA yn yc,.slice OA on oc] 53);have hL0:=hL.ext eG;have hS0:=hS.ext eG;go_enter Tryz.func78,Tryz.ntmps78
 go_upto_region 2 with fail
 generalize w.alloc (.cells #[.slice gA n gc,.int .i64 caps,.bool runes,.slice A hs.length c,.slice YA yn yc,.slice OA on oc] 53)=w0 at *;have g3:w0.cell? ⟨w.heap.size,3,none⟩=some (.slice A hs.length c):=bG.cell 3
 go_loopw [5] (fun v wr=>∃k:Nat,v=.int .i64 k∧k≤hs.length∧Hid (∀j (hj:j<hs.length),j<k→hs[j].l≠s)∧Ext w0 wr) (fun v _=>hs.length-(intOf v).toNat)
 case atStart=>exact⟨0,rfl,om,lh (fun j _ h=>om),Ext.rfl' _⟩
 case round=>
  obtain⟨k,rfl,hk,hno,x1⟩:=hrel;have g3':=x1.cell g3;by_cases hlt:k<hs.length
  ·have hkI:(k:Int)<hs.length:=om;obtain⟨b,o,rfl,g0⟩:=(hL0.ext x1).get hlt;have HQ:=lh (sameInts_any hs[k].A S hs[k].c sc (castL hs[k].l) (castL s) wr ((hL0.ext x1).il _ (List.getElem_mem hlt)) (hS0.ext x1));rw[castL_beq] at HQ;by_cases he:hs[k].l=s
   ·have HR:=lh (plc_at hlt hno.out he);rw[decide_eq_true he] at HQ;obtain⟨z,hz⟩:∃z,z=hs[k]:=⟨_,rfl⟩
    rw[←hz] at g0 HQ;clear he hz
    go_wp2_with fail
    refine HQ.out.mono ?_;rintro e w2 hq;obtain⟨rfl,x2⟩:=hq.v;clear hq
    go_wp2_with fail
    go_ret
    exact⟨by rw[HR.out];rfl,(eG.trans x1).trans x2⟩
   ·have HNO:=lh (show ∀j (hj:j<hs.length),j<k+1→hs[j].l≠s from fun j hj hjk=>by
     rcases Nat.lt_or_ge j k with h1|h1
     ·exact hno.out j hj h1
     ·have:j=k:=om;subst this;exact he)
    rw[decide_eq_false he] at HQ;exact K5z1
  ·have hkI:¬(k:Int)<hs.length:=om;have HR:=lh (plc_no (hs:=hs) (s:=s) (fun j hj=>hno.out j hj om))
   go_wp2_with fail
   go_ret
   exact⟨by rw[HR.out];rfl,eG.trans x1⟩
end
section
open Go.RowKit
structure Hz where
 A:Option Addr
 c:Nat
 l:List Int
def flatZ (hs:List Hz):List Value:=hs.map fun h=>.slice h.A h.l.length h.c
theorem flatZ_len (l:List Hz):(flatZ l).length=l.length:=by simp[flatZ]
def Hl.z (h:Hl):Hz:=⟨h.A,h.c,castL h.l⟩
theorem flatZ_z (hs:List Hl):flatZ (hs.map Hl.z)=flatL hs:=by simp[flatZ,flatL,Hl.z]
structure SZ (w:World)(base:Nat)(A:Option Addr)(c:Nat)(hs:List Hz):Prop where
 own:OwnS w base 22 1 A hs.length c (flatZ hs)
 il:∀h∈hs,IL w h.A h.c h.l
 ap:∀h∈hs,h.l≠[]→∀b,h.A.map (·.block)=some b→A.map (·.block)≠some b
theorem IL.kpz {p:Nat→Prop}{w w':World}{A:Option Addr}{c:Nat}{xs:List Int}(h:IL w A c xs)(k:KpP p w w')(hn:xs≠[]→∀b,A.map (·.block)=some b→¬p b):IL w' A c xs:=by
 refine⟨h.le,h.cap,h.rng,fun hx=>?_⟩;obtain⟨b,o,rfl,hc⟩:=h.at_ hx;refine⟨b,o,rfl,fun i hi=>?_⟩;have h1:=hc i hi;rw[World.cell?_of_block (w:=w) (k.block b (World.block_lt_of_cell? _ _ h1) (hn hx b rfl))];exact h1
theorem IL.bltz {w:World}{A:Option Addr}{c:Nat}{xs:List Int}(h:IL w A c xs)(hx:xs≠[]){b:Nat}(hb:A.map (·.block)=some b):b<w.heap.size:=by
 obtain⟨b',o,rfl,hc⟩:=h.at_ hx;have:b'=b:=by simpa using hb
 subst this;exact World.block_lt_of_cell? _ _ (hc 0 (List.length_pos_iff.2 hx))
namespace SZ
variable {w w':World} {base c:Nat} {A:Option Addr} {hs:List Hz}
theorem ext (h:SZ w base A c hs)(x:Ext w w'):SZ w' base A c hs:=⟨OwnS.ext h.own x,fun z hz=>(h.il z hz).ext x,h.ap⟩
theorem nil (w:World)(base:Nat):SZ w base none 0 []:=⟨OwnS.nil _ _ _ _,by simp,by simp⟩
theorem kp {p:Nat→Prop}(h:SZ w base A c hs)(k:KpP p w w')(h1:∀b,A.map (·.block)=some b→¬p b)(h2:∀z∈hs,z.l≠[]→∀b,z.A.map (·.block)=some b→¬p b):SZ w' base A c hs:=
 ⟨OwnS.kp h.own k h1,fun z hz=>(h.il z hz).kpz k (h2 z hz),h.ap⟩
theorem one {z:Hz}{g:Nat}(hb:Blk w g 22 #[.slice z.A z.l.length z.c])(hg:base≤g)(hz:IL w z.A z.c z.l)(hn:z.l≠[]→∀b,z.A.map (·.block)=some b→b≠g):SZ w base (some ⟨g,0,none⟩) 1 [z]:=by
 refine⟨OwnS.of_blk (size:=1) (c:=1) (n:=1) hb hg rfl (Nat.le_refl _) um,?_,?_⟩
 ·intro y hy;have:y=z:=by simpa using hy
  subst this;exact hz
 ·intro y hy hx b hb2 e;have:y=z:=by simpa using hy
  subst this;have:g=b:=by simpa using e
  exact hn hx b hb2 this.symm
theorem push {z:Hz}(h:SZ w base A c hs)(hz:IL w z.A z.c z.l)(hza:z.l≠[]→∀b,z.A.map (·.block)=some b→A.map (·.block)≠some b){A':Option Addr}{c':Nat}
 (ho:OwnS w' base 22 1 A' (hs.length+1) c' (flatZ hs++[.slice z.A z.l.length z.c])) (hg:(w.alloc (.cells #[.slice z.A z.l.length z.c] 22)).grownBy w' (A.map (·.block)))
 (hat:A'.map (·.block)=A.map (·.block)∨A'.map (·.block)=some (w.alloc (.cells #[.slice z.A z.l.length z.c] 22)).heap.size):SZ w' base A' c' (hs++[z]):=by
 have kk:=KpP.of_grown hg;have ex:=Ext.alloc w (.cells #[.slice z.A z.l.length z.c] 22);have off:∀y:Hz,IL w y.A y.c y.l→(y.l≠[]→∀b,y.A.map (·.block)=some b→A.map (·.block)≠some b)→IL w' y.A y.c y.l∧(y.l≠[]→∀b,y.A.map (·.block)=some b→A'.map (·.block)≠some b):=fun y h1 h2=>by
  refine⟨(h1.ext ex).kpz kk h2,fun hx b hb e=>?_⟩;rcases hat with e2|e2
  ·rw[e2] at e;exact h2 hx b hb e
  ·rw[e2] at e;injection e with e
   have:=h1.bltz hx hb;simp only[World.size_alloc] at e;omega
 refine⟨?_,fun y hy=>?_,fun y hy=>?_⟩
 ·rw[List.length_append];have e:flatZ (hs++[z])=flatZ hs++[.slice z.A z.l.length z.c]:=by simp[flatZ]
  rw[e];exact ho
 ·rcases List.mem_append.1 hy with hy|hy
  ·exact(off y (h.il y hy) (h.ap y hy)).1
  ·have:y=z:=by simpa using hy
   subst this;exact(off y hz hza).1
 ·rcases List.mem_append.1 hy with hy|hy
  ·exact(off y (h.il y hy) (h.ap y hy)).2
  ·have:y=z:=by simpa using hy
   subst this;exact(off y hz hza).2
theorem cells (h:SZ w base A c hs):CellsAt w A (flatZ hs):=OwnS.cells h.own
theorem get {k:Nat}(h:SZ w base A c hs)(hk:k<hs.length):∃b o,A=some ⟨b,o,none⟩∧w.cell? ⟨b,o+k,none⟩=some (.slice hs[k].A hs[k].l.length hs[k].c):=by
 obtain⟨b,o,hA,hcell⟩:=h.cells (by intro e;have:=flatZ_len hs;rw[e] at this;simp at this;omega);refine⟨b,o,hA,?_⟩;have:=hcell k (by rw[flatZ_len];exact hk)
 simpa[flatZ] using this
theorem ln {hl:List Hl}(h:SZ w base A c (hl.map Hl.z)):LN w A c hl:=by
 have ho:=h.own;rw[flatZ_z,List.length_map] at ho;exact LN.of_own ho (fun z hz=>h.il z.z (List.mem_map_of_mem hz))
end SZ
structure WdI (f:St→Int→St)(cs:List Int)(dn:St→Bool)(R:List St)(s:St)(hs:List St)(ws:List (List Int))(i k:Nat):Prop where
 len:ws.length=hs.length
 head:s∈hs
 nd:hs.Nodup
 inR:∀x∈hs,x=s∨x∈R
 word:∀j (h1:j<hs.length) (h2:j<ws.length),ws[j].foldl f s=hs[j]∧∀c∈ws[j],c∈cs
 clo:∀j (h1:j<hs.length) q (h2:q<cs.length),j<i∨(j=i∧q<k)→dn (f hs[j] cs[q])=false∧(f hs[j] cs[q]=[]∨f hs[j] cs[q]∈hs)
namespace WdI
variable {f:St→Int→St} {cs:List Int} {dn:St→Bool} {R:List St} {s:St} {hs:List St} {ws:List (List Int)} {i k:Nat}
theorem start (f:St→Int→St)(cs:List Int)(dn:St→Bool)(R:List St)(s:St):WdI f cs dn R s [s] [[]] 0 0:=by
 refine⟨rfl,by simp,by simp,fun x hx=>.inl (by simpa using hx),fun j h1 h2=>?_,fun j h1 q h2 h=>om⟩;have:j=0:=by simpa using h1
 subst this;simp
theorem bound (h:WdI f cs dn R s hs ws i k)(hR:R.length≤1024):hs.length≤1025:=by
 have:=List.Nodup.length_le_of_subset (l₁:=hs) (l₂:=s::R) h.nd (fun x hx=>by rcases h.inR x hx with rfl|h1<;>simp[*]);simp only[List.length_cons] at this;omega
theorem skip (h:WdI f cs dn R s hs ws i k)(hi:i<hs.length)(hk:k<cs.length)(hd:dn (f hs[i] cs[k])=false)(ht:f hs[i] cs[k]=[]∨f hs[i] cs[k]∈hs):WdI f cs dn R s hs ws i (k+1):=by
 refine⟨h.len,h.head,h.nd,h.inR,h.word,fun j h1 q h2 hjq=>?_⟩;by_cases he:j=i∧q=k
 ·obtain⟨rfl,rfl⟩:=he;exact⟨hd,ht⟩
 ·exact h.clo j h1 q h2 om
theorem add (h:WdI f cs dn R s hs ws i k)(hi:i<hs.length)(hk:k<cs.length)(hd:dn (f hs[i] cs[k])=false)(hn:f hs[i] cs[k]∉hs)(hR:f hs[i] cs[k]∈R)(hw:i<ws.length) :
 WdI f cs dn R s (hs++[f hs[i] cs[k]]) (ws++[ws[i]++[cs[k]]]) i (k+1):=by
 refine⟨by simp[h.len],by simp[h.head],?_,fun x hx=>?_,fun j h1 h2=>?_,fun j h1 q h2 hjq=>?_⟩
 ·rw[List.nodup_append];exact⟨h.nd,by simp,fun a ha b hb=>by
   have:b=f hs[i] cs[k]:=by simpa using hb
   subst this;rintro rfl;exact hn ha⟩
 ·rcases List.mem_append.1 hx with hx|hx
  ·exact h.inR x hx
  ·have:x=f hs[i] cs[k]:=by simpa using hx
   exact .inr (this▸hR)
 ·by_cases hj:j<hs.length
  ·have hj2:j<ws.length:=by rw[h.len];exact hj
   rw[List.getElem_append_left hj2,List.getElem_append_left hj];exact h.word j hj hj2
  ·have hjl:j=hs.length:=by simp at h1;omega
   subst hjl;have e1:(hs++[f hs[i] cs[k]])[hs.length]'h1=f hs[i] cs[k]:=by simp
   have e2:(ws++[ws[i]++[cs[k]]])[hs.length]'h2=ws[i]++[cs[k]]:=by
    rw[List.getElem_append_right (by rw[h.len];exact Nat.le_refl _)];simp[h.len]
   rw[e1,e2,List.foldl_append,(h.word i hi hw).1];refine⟨rfl,fun c hc=>?_⟩;rcases List.mem_append.1 hc with hc|hc
   ·exact(h.word i hi hw).2 c hc
   ·have:c=cs[k]:=by simpa using hc
    subst this;exact List.getElem_mem hk
 ·have hjl:j≤i:=om;have hj:j<hs.length:=om;rw[List.getElem_append_left hj];by_cases he:j=i∧q=k
  ·obtain⟨rfl,rfl⟩:=he;exact⟨hd,.inr si⟩
  ·obtain⟨h3,h4⟩:=h.clo j hj q h2 om;exact⟨h3,h4.imp id (fun h5=>by simp[h5])⟩
theorem row (h:WdI f cs dn R s hs ws i k)(hk:cs.length≤k):WdI f cs dn R s hs ws (i+1) 0:=
 ⟨h.len,h.head,h.nd,h.inR,h.word,fun j h1 q h2 hjq=>h.clo j h1 q h2 om⟩
theorem none_ (h:WdI f cs dn R s hs ws i k)(hi:hs.length≤i):¬Opn f cs dn s:=
 opn_none (S:=hs) (fun x hx c hc=>by
  obtain⟨j,hj,rfl⟩:=List.mem_iff_getElem.1 hx;obtain⟨q,hq,rfl⟩:=List.mem_iff_getElem.1 hc;exact h.clo j hj q hq (.inl om)) h.head
end WdI
theorem stateG_len {G:List Ins}(fs:List Nat):(stateG G fs).length≤G.length:=by
 have h1:∀(r:List Nat) (s:List Nat×List Nat),SeenOk G.length s.2→s.1.length≤s.2.length→(r.foldl (addR G (G.length+1)) s).1.length≤G.length:=by
  intro r;induction r with
  | nil=>intro s hs hl;have:=hs.len;simp only[List.foldl_nil];omega
  | cons p r ih=>
   intro s hs hl;rw[List.foldl_cons];refine ih _ (addR_ok _ _ _ hs) ?_;have:=addR_len G (G.length+1) s p;omega
 have h2:∀l:List Nat,(cutD G l).length≤l.length:=by
  intro l;induction l with
  | nil=>simp[cutD]
  | cons p r ih=>
   unfold cutD
   split
   ·simp
   ·simp only[List.length_cons];omega
 exact Nat.le_trans (h2 _) (h1 fs ([],[]) (SeenOk.nil _) (Nat.le_refl _))
theorem stateG_lt {hs:List Hin}(fs:List Nat):∀p∈stateG (insL hs) fs,p<hs.length:=fun p hp=>by
 obtain⟨h,_⟩:=stateG_in (insL hs) fs p hp
 rwa [insL_len] at h
end
section
open Go.RowKit
def mkC (A:Option Addr)(n c:Nat)(at_ uses left caps:Int):Array Value:=#[.slice A n c,.int .i64 at_,.int .i64 uses,.int .i64 left,.int .i64 caps]
structure MkM (w w0:World)(gm:Nat)(A:Option Addr)(c:Nat)(ls:List Int)(uses B:Int):Prop where
 ext:Ext w0 w
 il:IL w0 A c ls
 lo:w0.heap.size≤gm
 blk:∃(at_:Nat) (left caps:Int),Blk w gm 251 (mkC A ls.length c at_ uses left caps)∧(at_:Int)≤B∧-B≤left∧left≤1000∧0≤caps∧caps≤4
theorem MkM.extW {w w' w0:World}{gm:Nat}{A:Option Addr}{c:Nat}{ls:List Int}{uses B:Int}(h:MkM w w0 gm A c ls uses B)(x:Ext w w'):MkM w' w0 gm A c ls uses B:=by
 obtain⟨h1,h2,h3,at_,left,caps,h4,h5⟩:=h;exact⟨h1.trans x,h2,h3,at_,left,caps,h4.ext x,h5⟩
theorem MkM.mono {w w0:World}{gm:Nat}{A:Option Addr}{c:Nat}{ls:List Int}{uses B B':Int}(h:MkM w w0 gm A c ls uses B)(hB:B≤B'):MkM w w0 gm A c ls uses B':=by
 obtain⟨h1,h2,h3,at_,left,caps,h4,h5,h6,h7⟩:=h;exact⟨h1,h2,h3,at_,left,caps,h4,om,om,h7⟩
theorem MkM.kpR {w w' w0:World}{gm g:Nat}{A:Option Addr}{c:Nat}{ls:List Int}{uses B:Int}(h:MkM w w0 gm A c ls uses B)(k:KpP (·=g) w w')(hg:gm≠g)(h0:w0.heap.size≤g):MkM w' w0 gm A c ls uses B:=by
 obtain⟨h1,h2,h3,at_,left,caps,h4,h5⟩:=h;exact⟨h1.kp k (fun i hi=>hi▸h0),h2,h3,at_,left,caps,k.blk h4 hg,h5⟩
theorem pick_bd (l:List Int)(i:Nat)(m:Int)(h:1≤m):0≤pick l i m∧pick l i m<m:=by
 unfold pick
 split
 ·exact around_bd _ _ h
 ·omega
def RetNx (w0:World)(gm:Nat)(A:Option Addr)(c:Nat)(ls:List Int)(uses B n:Int)(w:World)(e:Ending)(w':World):Prop:=
 ∃v:Int,e=.returned (.int .i64 v)∧0≤v∧v<n∧MkM w' w0 gm A c ls uses B∧KpP (·=gm) w w'
def RetNxE (w0:World)(gm:Nat)(A:Option Addr)(n c:Nat)(at_ uses left caps v:Int)(w:World)(e:Ending)(w':World):Prop:=
 e=.returned (.int .i64 v)∧Blk w' gm 251 (mkC A n c at_ uses left caps)∧Ext w0 w'∧KpP (·=gm) w w'
theorem ynext_at (w0 w:World)(gm:Nat)(A:Option Addr)(c:Nat)(ls:List Int)(uses n:Int)(x0:Ext w0 w)(il:IL w0 A c ls)(lo:w0.heap.size≤gm)(at_:Nat)(left caps:Int)(hb:Blk w gm 251 (mkC A ls.length c at_ uses left caps))(hat:(at_:Int)≤100000000)
 (h0:1≤n) (h1:n≤1000) :
 Calls Tryz.prog 184 #[.pointer (some ⟨gm,0,none⟩),.int .i64 n] w (RetNxE w0 gm A ls.length c ((at_:Int)+1) uses left caps (pick ls at_ n) w):=by
 have c1:w.cell? ⟨gm,1,none⟩=some (.int .i64 at_):=hb.cell 1;have f1:=hb.frz 1;have ewp:IntKind.i64.wrap ((at_:Int)+1)=(at_:Int)+1:=wj;have hll:=il.len;go_enter Tryz.func184,Tryz.ntmps184
 go_upto_region 2 with fail
 have K2:KpP (·=gm) w (w.setCell ⟨gm,1,none⟩ (.int .i64 ((at_:Int)+1))):=KpP.set (p:=(·=gm)) (x:=⟨gm,1,none⟩) (KpP.refl _ _) (.inl rfl) _;have X2:Ext w0 (w.setCell ⟨gm,1,none⟩ (.int .i64 ((at_:Int)+1))):=x0.setNew (p:=⟨gm,1,none⟩) lo _;have b2:=hb.set 1 (.int .i64 ((at_:Int)+1));generalize w.setCell ⟨gm,1,none⟩ (.int .i64 ((at_:Int)+1))=w2 at *;have d0:w2.cell? ⟨gm,0,none⟩=some (.slice A ls.length c):=b2.cell 0;have d1:w2.cell? ⟨gm,1,none⟩=some (.int .i64 ((at_:Int)+1)):=b2.cell 1;have ewm:IntKind.i64.wrap ((at_:Int)+1-1)=(at_:Int):=wj;have HI:=lh (il.ext X2);have HB2:=lh b2;clear b2 c1 f1 hb
 go_wp2_with (go_quiet (first|(go_at_call 37;refine Calls.quiet_of (pick_any A c ls at_ n _ (HI.out.ext (Ext.drewN _ _)) h0 om om))))
 go_ret
 refine⟨rfl,?_,X2.trans (Ext.drewN _ _),K2.trans (KpP.of_ext (Ext.drewN _ _))⟩;have b:=HB2.out.ext (Ext.drewN w2 nq)
 simpa[mkC] using b
theorem ynext_any (w0 w:World)(gm:Nat)(A:Option Addr)(c:Nat)(ls:List Int)(uses B n:Int)(h:MkM w w0 gm A c ls uses B)(hB:B≤100000000)(h0:1≤n)(h1:n≤1000) :
 Calls Tryz.prog 184 #[.pointer (some ⟨gm,0,none⟩),.int .i64 n] w (RetNx w0 gm A c ls uses (B+1) n w):=by
 obtain⟨x0,il,lo,at_,left,caps,hb,hat,hl1,hl2,hc1,hc2⟩:=h;refine(ynext_at w0 w gm A c ls uses n x0 il lo at_ left caps hb om h0 h1).mono ?_;rintro e w' ⟨h1,h2,h3,h4⟩;have hp:=pick_bd ls at_ n h0;exact⟨_,h1,hp.1,hp.2,⟨h3,il,lo,at_+1,left,caps,by simpa using h2,om,om,om,om,om⟩,h4⟩
end
end Go.Proofs.YtmocoldobnimfaaGreat
