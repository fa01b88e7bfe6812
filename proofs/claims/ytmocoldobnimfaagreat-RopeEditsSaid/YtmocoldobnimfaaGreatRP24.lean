/- Texts of this proof: RC RD RE R3. -/
import Derived.Test.YtmocoldobnimfaaGreatRP15
import Derived.Test.YtmocoldobnimfaaGreatRP20
set_option linter.all false
set_option maxRecDepth 100000
set_option maxHeartbeats 8000000
namespace Go.Proofs.YtmocoldobnimfaaGreat
section
open Go.RowKit
attribute [local go_sem ↓] Go.wp_at_zero Go.wp_at_succ
theorem eHigh_any (w:World)(h n q:Nat)(hh:h≤40)(hn:n≤65536)(hq:q=(n+1)*(n+1))(hp:2 ^ (h-2)≤q):Calls Tryz.prog 47 #[.int .i64 h,.int .i64 n] w (RetE (.bool true) w):=by
 have hq2:q≤65537*65537:=by rw[hq];exact Nat.mul_le_mul om om
 have hq1:1≤q:=by rw[hq];exact Nat.mul_pos om om
 have hm:wrap64 (((n:Int)+1)*((n:Int)+1))=(q:Int):=by
  have e:((n:Int)+1)*((n:Int)+1)=(q:Int):=by rw[hq];push_cast;rfl
  rw[e];unfold wrap64;omega
 have HP:=lh hp;clear hp hq;go_enter Tryz.func47,Tryz.ntmps47
 go_wp2
 go_loopw [5,6] (fun p i wr=>∃(k P:Nat),(k=0∨k+2≤h)∧P=2 ^ k∧p=.int .i64 (P:Int)∧i=.int .i64 ((k:Int)+2)∧wr=w) (fun _ i _=>100-(intOf i).toNat)
 case atStart=>exact⟨0,1,.inl rfl,rfl,rfl,rfl,rfl⟩
 case round=>
  obtain⟨k,P,hk,hP,rfl,rfl,rfl⟩:=hrel;have hPq:P≤q:=by
   rw[hP];rcases hk with rfl|hk
   ·simpa using hq1
   ·exact Nat.le_trans (Nat.pow_le_pow_right om om) HP.out
  have HPP:=lh hP;clear hP;by_cases hlt:k+2<h
  ·go_wp2
   refine⟨⟨k+1,2*P,.inr om,by rw[HPP.out,Nat.pow_succ,Nat.mul_comm],by push_cast;rfl,by go_num,trivial⟩,?_⟩;simp[intOf];omega
  ·go_wp2
   go_ret
   exact⟨rfl,rfl⟩
end
section
open Go.RowKit
attribute [local go_sem ↓] Go.wp_at_zero Go.wp_at_succ
def repP (p:List Int)(k:Nat):List Int:=(List.replicate k p).flatten
theorem repP_succ (p:List Int)(k:Nat):repP p k++p=repP p (k+1):=by simp[repP,List.replicate_succ']
theorem repP_len (p:List Int)(k:Nat):(repP p k).length=k*p.length:=by simp[repP]
theorem repP_mem {p:List Int}{k:Nat}{x:Int}(h:x∈repP p k):x∈p:=by
 simp only[repP,List.mem_flatten,List.mem_replicate] at h;obtain⟨q,⟨_,rfl⟩,h⟩:=h;exact h
def text25 (l:List Int)(times:Int):List Int:=repP (rtext l 40) (1+(around times 6).toNat)
theorem eText_any (w:World)(A:Option Addr)(c:Nat)(l:List Int)(hl:IL w A c l)(times:Int)(ht:I64 times):Calls Tryz.prog 44 #[.slice A l.length c,.int .i64 times] w (RetIL (text25 l times) w):=by
 obtain⟨i0,hi0,hz0,hz1,hz2⟩:=info_parts infoInt;have HT:=lh (rText_any A c l 40 w hl om);have hb:=around_bd times 6 om;have HA:=fun(W:World)=>lh (around_any times 6 W ht om om);unfold text25;obtain⟨r,hr6,hr⟩:∃r:Nat,r<6∧around times 6=(r:Int):=⟨(around times 6).toNat,om,om⟩;rw[hr] at HA ⊢;rw[Int.toNat_natCast];clear hb hr ht;have hp:=rtext_len l 40;have hpb:∀x∈rtext l 40,I64 x:=fun x hx=>I64_of (by have:=rtext_bd l 40 x hx;omega);generalize rtext l 40=p at *;go_enter Tryz.func44,Tryz.ntmps44
 go_upto_region 2 with(go_at_call 25;refine HT.out.mono ?_;rintro e w1 ⟨B,d,rfl,hB,x1,hf⟩;have HX1:=lh x1;have HB:=lh hB;clear x1 hB hf)
 clear HT
 go_wp2
 go_loopw [6,7] (fun v i wr=>∃(k:Nat) (A':Option Addr) (c':Nat),k≤r+1∧i=.int .i64 k∧v=.slice A' (repP p k).length c'∧OwnI wr w1.heap.size 3 A' c' (repP p k)∧Ext w1 wr) (fun _ i _=>10-(intOf i).toNat)
 case atStart=>exact⟨0,none,0,Nat.zero_le _,rfl,rfl,OwnS.nil _ _ _ _,Ext.rfl' _⟩
 case round=>
  obtain⟨k,A',c',hk,rfl,rfl,hown,hext⟩:=hrel;have HE:=lh hext;clear hext;by_cases hlt:k<r+1
  ·go_upto_region 6 with(go_at_call 17;refine(HA _).out.mono ?_;rintro e w2 h2;obtain⟨rfl,hx2⟩:=h2.v;have HX2:=lh hx2;clear hx2 h2)
   have hown2:=OwnS.ext hown HX2.out;have hcl:=(HB.out.ext (HE.out.trans HX2.out)).cells;have hk6:(repP p k).length≤400:=by rw[repP_len];exact Nat.le_trans (Nat.mul_le_mul (show k≤10 by omega) hp) om
   have h63:(repP p k).length+p.length≤maxLen:=by unfold maxLen;omega
   have h8:((repP p k).length+p.length)*8≤140737488355328:=om;have hbase:w1.heap.size≤w2.heap.size:=(HE.out.trans HX2.out).size;have HL:=lh (show(repP p k).length+p.length=(repP p (k+1)).length by rw[←repP_succ];simp);have HC:=lh (show(repP p k).map (Value.int .i64)++p.map (Value.int .i64)=(repP p (k+1)).map (Value.int .i64) by rw[←repP_succ];simp);have H63:=lh h63;have H8:=lh h8;have HBS:=lh hbase;have H1:=ints_one p;have HP0:(p.map (Value.int .i64)).length=p.length*1:=by simp
   clear h63 h8 hbase hk6 hp
   go_wp2_with (at_builtin;refine wpList_app _ rfl _ _ _ rfl w1.heap.size 3 i0 (.int .i64 0) 1 8 Tryz.underlying22 hi0 hz0 hz1 hz2 rfl om A' (repP p k).length c' _ rfl hown2 B p.length d (p.map (Value.int .i64)) rfl HP0 hcl H1 H63.out H8.out HBS.out ?_;intro A2 c2 w3 hown3 hg _;rw[HL.out];rw[HC.out,HL.out] at hown3;have HG:=lh ((HE.out.trans HX2.out).grown hg (OwnS.row hown2));clear hg)
   go_roundw
   case rel=>exact⟨k+1,A2,c2,om,by go_num,rfl,hown3,HG.out⟩
   case measure=>simp[intOf];omega
  ·go_upto_region 7 with(go_at_call 17;refine(HA _).out.mono ?_;rintro e w2 h2;obtain⟨rfl,hx2⟩:=h2.v;have HX2:=lh hx2;clear hx2 h2)
   have hkr:k=1+r:=om;subst hkr
   go_wp2
   go_ret
   exact⟨A',c',rfl,IL.of_own (OwnS.ext hown HX2.out) (fun x hx=>hpb x (repP_mem hx)),HX1.out.trans (HE.out.trans HX2.out),fun b hb=>Nat.le_trans HX1.out.size (OwnS.row hown b hb)⟩
end
section
open Go.RowKit
attribute [local go_sem ↓] Go.wp_at_zero Go.wp_at_succ
structure Oq where
 e:Ed
 A:Option Addr
 c:Nat
def flatQ (l:List Oq):List Value:=l.flatMap fun o=>[.int .i64 o.e.at_,.int .i64 o.e.del,.slice o.A o.e.ins.length o.c]
theorem flatQ_append (l m:List Oq):flatQ (l++m)=flatQ l++flatQ m:=by simp[flatQ]
theorem flatQ_len (l:List Oq):(flatQ l).length=l.length*3:=by
 induction l with
 | nil=>rfl
 | cons y l ih=>simp only[flatQ,List.flatMap_cons,List.length_append] at *;simp only[List.length_cons,List.length_nil];omega
theorem flatQ_one (l:List Oq):∀u∈flatQ l,u.oneCell'=true:=by
 intro u hu;obtain⟨o,_,hu⟩:=List.mem_flatMap.1 hu;simp only[List.mem_cons,List.not_mem_nil,or_false] at hu;rcases hu with rfl|rfl|rfl<;>rfl
def EdNum (e:Ed):Prop:=(∀x∈e.ins,0≤x∧x≤200)∧e.ins.length≤80∧-1≤e.at_∧e.at_≤1000000∧0≤e.del∧e.del≤1000000
def OqAt (w:World)(B:Option Addr)(o:Oq):Prop:=IL w o.A o.c o.e.ins∧EdNum o.e∧(o.e.ins≠[]→∀b,o.A.map (·.block)=some b→B.map (·.block)≠some b)
theorem infoEd:(Tryz.prog.info? 102).map (fun i=>(i.zero,i.size,i.bytes))=some (some (.agg #[.int .i64 0,.int .i64 0,.slice none 0 0]),3,40):=by kernel_rfl
def EdB (wr wx:World)(ge:Nat):Prop:=Ext wr wx∧wr.heap.size≤ge∧∃o:Oq,Blk wx ge 102 #[.int .i64 o.e.at_,.int .i64 o.e.del,.slice o.A o.e.ins.length o.c]∧IL wx o.A o.c o.e.ins∧EdNum o.e∧(o.e.ins≠[]→∀b,o.A.map (·.block)=some b→wr.heap.size≤b∧b≠ge)
theorem EdB.num {wr wx:World}{ge:Nat}(h:EdB wr wx ge)(d:Int)(h0:0≤d)(h1:d≤1000000):EdB wr (wx.setCell ⟨ge,1,none⟩ (.int .i64 d)) ge:=by
 obtain⟨x,hge,o,hb,hi,⟨n1,n2,n3,n4,_,_⟩,hn⟩:=h;refine⟨x.setNew (p:=⟨ge,1,none⟩) hge _,hge,⟨⟨o.e.at_,d,o.e.ins⟩,o.A,o.c⟩,by simpa using hb.set 1 (.int .i64 d),?_,⟨n1,n2,n3,n4,h0,h1⟩,hn⟩;by_cases h:o.e.ins=[]
 ·have:=IL.nil (wx.setCell ⟨ge,1,none⟩ (.int .i64 d));simp only;rw[h] at hi ⊢;exact⟨hi.le,hi.cap,hi.rng,fun h=>absurd rfl h⟩
 ·exact hi.set (p:=⟨ge,1,none⟩) (fun e=>(hn h _ e).2 rfl) _
theorem EdB.at0 {wr wx:World}{ge:Nat}(h:EdB wr wx ge)(a:Int)(h0 : -1≤a)(h1:a≤1000000):EdB wr (wx.setCell ⟨ge,0,none⟩ (.int .i64 a)) ge:=by
 obtain⟨x,hge,o,hb,hi,⟨n1,n2,_,_,n3,n4⟩,hn⟩:=h;refine⟨x.setNew (p:=⟨ge,0,none⟩) hge _,hge,⟨⟨a,o.e.del,o.e.ins⟩,o.A,o.c⟩,by simpa using hb.set 0 (.int .i64 a),?_,⟨n1,n2,h0,h1,n3,n4⟩,hn⟩;by_cases h:o.e.ins=[]
 ·simp only;rw[h] at hi ⊢;exact⟨hi.le,hi.cap,hi.rng,fun h=>absurd rfl h⟩
 ·exact hi.set (p:=⟨ge,0,none⟩) (fun e=>(hn h _ e).2 rfl) _
theorem EdB.ins {wr wx wy:World}{ge:Nat}(h:EdB wr wx ge)(k:Ext wx wy){A:Option Addr}{c:Nat}{l:List Int}(hl:IL wy A c l)(hr:∀x∈l,0≤x∧x≤200)(hn:l.length≤80)(hf:Fr wx A):EdB wr (wy.setCell ⟨ge,2,none⟩ (.slice A l.length c)) ge:=by
 obtain⟨x,hge,o,hb,hi,⟨_,_,n1,n2,n3,n4⟩,_⟩:=h;have hlt:=hb.lt;have hA:∀b,A.map (·.block)=some b→wr.heap.size≤b∧b≠ge:=fun b e=>by have:=hf b e;have:=x.size;exact⟨om,om⟩
 refine⟨(x.trans k).setNew (p:=⟨ge,2,none⟩) hge _,hge,⟨⟨o.e.at_,o.e.del,l⟩,A,c⟩,by simpa using(hb.ext k).set 2 (.slice A l.length c),?_,⟨hr,hn,n1,n2,n3,n4⟩,fun _ b e=>hA b e⟩;exact hl.set (p:=⟨ge,2,none⟩) (fun e=>(hA _ e).2 rfl) _
theorem EdB.ext {wr wx wy:World}{ge:Nat}(h:EdB wr wx ge)(k:Ext wx wy):EdB wr wy ge:=by
 obtain⟨x,hge,o,hb,hi,n,hn⟩:=h;exact⟨x.trans k,hge,o,hb.ext k,hi.ext k,n,hn⟩
end
section
open Go.RowKit
attribute [local go_sem ↓] Go.wp_at_zero Go.wp_at_succ
theorem Kp.kpPs {gb:Nat}{a b:World}(h:Kp [gb] a b):KpP (·=gb) a b:=KpP.kp h (fun i hi=>by simpa using hi)
theorem KpP.kps {gb:Nat}{a b:World}(h:KpP (·=gb) a b):Kp [gb] a b:=⟨h.os,h.tape,h.output,h.size,fun k hk hn=>h.block k hk (fun e=>hn (by simp[e]))⟩
theorem KpP.extOf {gb:Nat}{e a b:World}(h:KpP (·=gb) a b)(x:Ext e a)(hg:e.heap.size≤gb):Ext e b:=Ext.kp x h (fun i hi=>by subst hi;exact hg)
section
variable {w0:World} {g:Nat} {ok:Int→Prop} {S:World→Nat→List Int→Prop}
structure Tr (S:World→Nat→List Int→Prop)(ok:Int→Prop)(w:World)(v:Value)(t:Sh):Prop where
 at_:RtAt S w v t
 ok_:∀x∈t.text,ok x
 h:t.hgt≤1000
 n:t.text.length≤65536
theorem Tr.kp (M:Mo w0 g ok S){w w':World}{v:Value}{t:Sh}{gb k:Nat}(h:Tr S ok w v t)(hb:BdAt w gb g k)(kk:KpP (·=gb) w w'):Tr S ok w' v t:=⟨RtAt.kp M kk (TyQ.one hb) h.at_,h.ok_,h.h,h.n⟩
theorem Tr.ext (M:Mo w0 g ok S){w w':World}{v:Value}{t:Sh}(h:Tr S ok w v t)(x:Ext w w'):Tr S ok w' v t:=⟨RtAt.ext M x h.at_,h.ok_,h.h,h.n⟩
structure TrB (S:World→Nat→List Int→Prop)(ok:Int→Prop)(gb g k:Nat)(t:Sh)(w w':World)(v:Value):Prop where
 tr:Tr S ok w' v t
 bd:BdAt w' gb g k
 kp:KpP (·=gb) w w'
def RetTr (S:World→Nat→List Int→Prop)(ok:Int→Prop)(gb g k:Nat)(t:Sh)(w:World)(e:Ending)(w':World):Prop:=∃v,e=.returned v∧TrB S ok gb g k t w w' v
theorem pair_any (M:Mo w0 g ok S)(w:World)(x0:Ext w0 w)(gb k:Nat)(hgb:w0.heap.size≤gb)(hb:BdAt w gb g k)(hk:k≤1000000)(vl vr:Value)(l r:Sh)(hl:Tr S ok w vl l)(hr:Tr S ok w vr r)
 (hn:l.text.length+r.text.length≤65536) (hh:(Sh.nd l r).hgt≤1000) :
 Calls Tryz.prog 140 #[.pointer (some ⟨gb,0,none⟩),vl,vr] w (RetTr S ok gb g (k+1) (.nd l r) w):=by
 refine(pair_node M w x0 gb k hgb hb hk vl vr l r hl.at_ hr.at_ hl.ok_ hr.ok_ hn ⟨hl.h,hr.h⟩).mono ?_;rintro e w' ⟨v,rfl,h1,h2,h3⟩;refine⟨v,rfl,⟨h1,fun x hx=>?_,hh,by simpa[Sh.text] using hn⟩,h2,h3⟩;rcases List.mem_append.1 hx with hx|hx
 ·exact hl.ok_ x hx
 ·exact hr.ok_ x hx
theorem Tr.nd {w:World}{v:Value}{l r:Sh}(h:Tr S ok w v (.nd l r)):∃(b:Nat) (vl vr:Value) (gs:Nat),v=inV b∧Blk w b 241 #[vl,vr,.int .i64 (l.text++r.text).length,.int .i64 (Sh.nd l r).hgt,.pointer (some ⟨gs,0,none⟩)]∧Tr S ok w vl l∧Tr S ok w vr r:=by
 obtain⟨b,vl,vr,gs,e,hb,h1,h2,hs⟩:=h.at_;have e1:l.hgt≤1000∧r.hgt≤1000:=by have:=h.h;simp only[Sh.hgt] at this;omega
 have e2:l.text.length≤65536∧r.text.length≤65536:=by have:=h.n;simp only[Sh.text,List.length_append] at this;omega
 exact⟨b,vl,vr,gs,e,hb,⟨h1,fun x hx=>h.ok_ x (List.mem_append_left _ hx),e1.1,e2.1⟩,⟨h2,fun x hx=>h.ok_ x (List.mem_append_right _ hx),e1.2,e2.2⟩⟩
theorem Tr.as {w:World}{T b:Nat}{t:Sh}(h:Tr S ok w (.iface T (.pointer (some ⟨b,0,none⟩))) t):(∃l r,t=.nd l r∧T=239)∨(∃ts,t=.lf ts∧T=236):=by
 cases t with
 | lf ts=>obtain⟨b',A,c,gs,e,_⟩:=h.at_;cases e;exact .inr ⟨ts,rfl,rfl⟩
 | nd l r=>obtain⟨b',vl,vr,gs,e,_⟩:=h.at_;cases e;exact .inl ⟨l,r,rfl,rfl⟩
end
theorem Blk.neT {w:World}{a b T T':Nat}{cs cs':Array Value}(h:Blk w a T cs)(k:Blk w b T' cs')(hT:T≠T'):a≠b:=fun e=>by
 subst e;have h1:some (Obj.cells cs T (0,0))=some (.cells cs' T' (0,0)):=Eq.trans (Eq.symm h) k;injection h1 with h1
 injection h1 with _ h1
 exact hT h1
theorem asIn (w:World)(p:Value):(Instr.typeAssert (.iface 239 p) 173 239 true).run Tryz.prog w=.ok (.tuple #[p,.bool true]) w:=by kernel_rfl
theorem asLfIn (w:World)(p:Value):(Instr.typeAssert (.iface 236 p) 173 239 true).run Tryz.prog w=.ok (.tuple #[.pointer none,.bool false]) w:=by kernel_rfl
theorem asLf (w:World)(p:Value):(Instr.typeAssert (.iface 236 p) 173 236 true).run Tryz.prog w=.ok (.tuple #[p,.bool true]) w:=by kernel_rfl
theorem asInLf (w:World)(p:Value):(Instr.typeAssert (.iface 239 p) 173 236 true).run Tryz.prog w=.ok (.tuple #[.pointer none,.bool false]) w:=by kernel_rfl
theorem asNil (w:World):(Instr.typeAssert .nilIface 173 239 true).run Tryz.prog w=.ok (.tuple #[.pointer none,.bool false]) w∧(Instr.typeAssert .nilIface 173 236 true).run Tryz.prog w=.ok (.tuple #[.pointer none,.bool false]) w:=⟨by kernel_rfl,by kernel_rfl⟩
theorem bal5 {w0:World}{g:Nat}{ok:Int→Prop}{S:World→Nat→List Int→Prop}(M:Mo w0 g ok S)(w:World)(x0:Ext w0 w)(gb k:Nat)(hgb:w0.heap.size≤gb)(hb:BdAt w gb g k)(hk:k≤900000)(vl vr:Value)(l a b y:Sh)(hl:Tr S ok w vl l)(hr:Tr S ok w vr (.nd (.nd a b) y))
 (hn:l.text.length+(Sh.nd (.nd a b) y).text.length≤65536) (h1:l.hgt+1<(Sh.nd (.nd a b) y).hgt) (h2:y.hgt<(Sh.nd a b).hgt) (hh:(Sh.nd (.nd l a) (.nd b y)).hgt≤1000) :
 Calls Tryz.prog 139 #[.pointer (some ⟨gb,0,none⟩),vl,vr] w (RetTr S ok gb g (k+3) (.nd (.nd l a) (.nd b y)) w):=by
 obtain⟨b2,vx,vy,gs,rfl,hbr,hx,hy⟩:=hr.nd;obtain⟨bx,va,vb,gs',rfl,hbx,ha,hbb⟩:=hx.nd;obtain⟨T1,b1,s1,K1,K2,K3,rfl,hm1,hs1⟩:=hl.at_.meth;obtain⟨_,_,s2,K4,K5,K6,e2,hm2,hs2⟩:=hr.at_.meth;obtain⟨_,_,s3,K7,K8,K9,e3,hm3,hs3⟩:=hx.at_.meth;obtain⟨Ty,by_,s4,Ka,Kb,Kc,rfl,hm4,hs4⟩:=hy.at_.meth;cases e2
 cases e3
 have n1:=hm1.height.nil_;have n2:=hm1.height.mth;have n3:=hm1.height.ent;have n4:=hm2.height.nil_;have n5:=hm2.height.mth;have n6:=hm2.height.ent;have n7:=hm3.height.nil_;have n8:=hm3.height.mth;have n9:=hm3.height.ent;have na:=hm4.height.nil_;have nb:=hm4.height.mth;have nc:=hm4.height.ent;have HM1:=lh hm1;have HM2:=lh hm2;have HM3:=lh hm3;have HM4:=lh hm4;have c0:w.cell? ⟨b2,0,none⟩=some (inV bx):=hbr.cell 0;have c1:w.cell? ⟨b2,1,none⟩=some (.iface Ty (.pointer (some ⟨by_,0,none⟩))):=hbr.cell 1;have c2:w.cell? ⟨bx,0,none⟩=some va:=hbx.cell 0;have c3:w.cell? ⟨bx,1,none⟩=some vb:=hbx.cell 1;unfold inV at c0;have h1I:((Sh.nd (.nd a b) y).hgt:Int)>(l.hgt:Int)+1:=om;have h2I:((Sh.nd a b).hgt:Int)>(y.hgt:Int):=om;clear hm1 hm2 hm3 hm4;unfold inV;have ta:=asIn;have S0:=Ext.rfl' w;have hlh:=hl.h;have hrh:=hr.h;go_enter Tryz.func139,Tryz.ntmps139
 go_upto_region 4 with(first|(go_at_fn K5;refine(HM2.out.height.call _ S0).mono ?_;rintro e wa ⟨rfl,rfl⟩)|(go_at_fn K2;refine(HM1.out.height.call _ S0).mono ?_;rintro e wa ⟨rfl,rfl⟩))
 have j0:=kc0 c0;have j1:=kc0 c1;refine Xr.start [] kr ?_;refine Xtk 0 ?_;refine Xtn ?_
 iterate 4(first|refine Xtn ?_|refine Xsn ?_)
 first|refine Xtk 7 ?_|refine Xsk 7 ?_
 iterate 3(first|refine Xtn ?_|refine Xsn ?_)
 refine Xcl 6 fun w1 hE1 hK1 K hKK=>?_;go_simp;refine(HM3.out.height.call w1 hE1).mono ?_;rintro e w2 ⟨rfl,rfl⟩;refine hKK _ _ (Ext.rfl' _) ?_;clear hKK;refine ptm ?_;refine Xcl 11 fun w3 hE3 hK3 K hKK=>?_;go_simp;refine(HM4.out.height.call w3 (hE1.trans hE3)).mono ?_;rintro e w2 ⟨rfl,rfl⟩;refine hKK _ _ (Ext.rfl' _) ?_;clear hKK;refine ptm ?_
 first|refine Xtk 12 ?_|refine Xsk 12 ?_
 refine Xtn ?_;refine Xdn fun w4 hE4 hK4=>?_;have X4:=lh hK4.nil;have hb4:=hb.ext X4.out;have hl4:=lh (hl.ext M X4.out);have ha4:=lh (ha.ext M X4.out);have hbb4:=lh (hbb.ext M X4.out);have hy4:=lh (hy.ext M X4.out);have d0:=fun(w':World) (h:Kp [gb] w4 w')=>h.cell (X4.out.cell c0) (by simpa using Blk.neT hbr hb de);have d1:=fun(w':World) (h:Kp [gb] w4 w')=>h.cell (X4.out.cell c1) (by simpa using Blk.neT hbr hb de);have d2:=fun(w':World) (h:Kp [gb] w4 w')=>h.cell (X4.out.cell c2) (by simpa using Blk.neT hbx hb de);have d3:=fun(w':World) (h:Kp [gb] w4 w')=>h.cell (X4.out.cell c3) (by simpa using Blk.neT hbx hb de);have XX4:=lh (x0.trans X4.out);clear hE1 hK1 hE3 hK3 hE4 hK4 c0 c1 c2 c3 j0 j1 n1 n2 n3 n4 n5 n6 n7 n8 n9 na nb nc HM1 HM2 HM3 HM4 hl hr hx hy ha hbb hbr hbx hs1 hs2 hs3 hs4 hb S0;simp only[Sh.text,List.length_append] at hn;simp only[Sh.hgt] at hh
 go_upto_region 5 with fail
 refine Xr.start [gb] kr ?_;refine Xtk 0 ?_
 iterate 6(refine Xtn ?_)
 refine Xtk 8 ?_
 iterate 8(refine Xtn ?_)
 clear d0 d1 d2 d3;refine Xsp 7 fun w6 hE6 hK6 K hKK=>?_;go_simp;refine(pair_any M w6 (KpP.extOf hK6.kpPs XX4.out hgb) gb k hgb (hb4.ext hE6) om _ _ l a (hl4.out.kp M hb4 hK6.kpPs) (ha4.out.kp M hb4 hK6.kpPs) om (by simp only[Sh.hgt];omega)).mono ?_;rintro e w7 ⟨v1,rfl,k7⟩;refine hKK _ _ (WI_kp k7.kp si) (hK6.kpP k7.kp si) ?_;clear hKK;refine ptm ?_;refine Xsp 17 fun w8 hE8 hK8 K hKK=>?_;go_simp;refine(pair_any M w8 (KpP.extOf hK8.kpPs XX4.out hgb) gb (k+1) hgb (k7.bd.ext hE8) om _ _ b y (hbb4.out.kp M hb4 hK8.kpPs) (hy4.out.kp M hb4 hK8.kpPs) om (by simp only[Sh.hgt];omega)).mono ?_;rintro e w9 ⟨v2,rfl,k9⟩;refine hKK _ _ (WI_kp k9.kp si) (hK8.kpP k9.kp si) ?_;clear hKK;refine ptm ?_;refine Xsp 18 fun w10 hE10 hK10 K hKK=>?_;go_simp;refine(pair_any M w10 (KpP.extOf hK10.kpPs XX4.out hgb) gb (k+1+1) hgb (k9.bd.ext hE10) om _ _ (.nd l a) (.nd b y) (((k7.tr.ext M hE8).kp M (k7.bd.ext hE8) k9.kp).ext M hE10) (k9.tr.ext M hE10) (by simp only[Sh.text,List.length_append];omega) (by simp only[Sh.hgt];omega)).mono ?_;rintro e w11 ⟨v3,rfl,k11⟩;refine hKK _ _ (WI_kp k11.kp si) (hK10.kpP k11.kp si) ?_;clear hKK;refine ptm ?_;refine Xtk 19 ?_;refine Xdn fun w12 hE12 hK12=>?_
 go_wp2_with fail
 go_ret
 exact⟨v3,rfl,k11.tr.ext M hE12,k11.bd.ext hE12,KpP.extThen X4.out hK12.kpPs⟩
end
end Go.Proofs.YtmocoldobnimfaaGreat
