/- Texts of this proof: K12 Z2. -/
import Derived.Test.YtmgpefenkilffaaGreatSP06
set_option linter.all false
set_option maxRecDepth 100000
set_option maxHeartbeats 16000000
namespace Go.Proofs.YtmgpefenkilffaaGreat
section
open Go.RowKit
attribute [local go_sem ↓] Go.wp_at_zero Go.wp_at_succ
def RetOut (runes:Bool)(w:World)(e:Ending)(w':World):Prop:=
 ∃(a b:Nat),e=.returned (.func (Fn.func 207) #[] #[.pointer (some ⟨a,0,none⟩),.pointer (some ⟨b,0,none⟩)])/\w'.cell? ⟨a,0,none⟩=some (.int .i64 (topV runes))/\w'.cell? ⟨b,0,none⟩=some (.bool runes)/\Ext w w'
theorem outside_any (runes:Bool)(w:World):Calls Tryz.prog 136 #[.bool runes] w (RetOut runes w):=by
 have hb:=Blk.new w 4 #[.bool runes];have e1:=Ext.alloc w (.cells #[.bool runes] 4);have h1:=fun(t:Int)=>(hb.ext (Ext.alloc (w.alloc (.cells #[.bool runes] 4)) (.cells #[.int .i64 t] 3))).cell 0;have h2:=fun(t:Int)=>(Blk.new (w.alloc (.cells #[.bool runes] 4)) 3 #[.int .i64 t]).cell 0;simp only[World.size_alloc] at h2;replace h1:=lh h1;replace h2:=lh h2;clear hb e1;cases runes
 ·go_enter Tryz.func136,Tryz.ntmps136
  go_wp2
  go_ret
  exact⟨_,_,rfl,h2.out 255,h1.out 255,(Ext.alloc _ _).trans (Ext.alloc _ _)⟩
 ·go_enter Tryz.func136,Tryz.ntmps136
  go_wp2
  go_ret
  exact⟨_,_,rfl,h2.out 1114111,h1.out 1114111,(Ext.alloc _ _).trans (Ext.alloc _ _)⟩
theorem K12z5 {P:Prop} (h:P:=by
 go_enter Tryz.func208,Tryz.ntmps208
 go_wp2
 go_ret
 exact⟨rfl,Ext.rfl' _⟩):P:=h
theorem surr_any (x:Int)(w:World):Calls Tryz.prog 208 #[.int .i64 x] w (RetV (.bool (decide (55296<=x/\x<=57343))) w):=by
 by_cases h1:55296<=x
 ·by_cases h2:x<=57343
  ·rw[decide_eq_true ⟨h1,h2⟩];exact K12z5
  ·rw[decide_eq_false (fun h=>h2 h.2)];exact K12z5
 ·rw[decide_eq_false (fun h=>h1 h.1)];exact K12z5
theorem K12z2 {P:Prop} (h:P:=by
 go_enter Tryz.func207,Tryz.ntmps207
 go_wp2
 go_ret
 exact⟨rfl,Ext.rfl' _⟩):P:=h
theorem K12z4 {P:Prop} (h:P:=by
 clear h3;go_enter Tryz.func207,Tryz.ntmps207
 go_wp2_with fail
 refine(hs _).out.mono ?_;rintro e w1 ⟨rfl,x1⟩
 go_wp2_with fail
 go_ret
 exact⟨rfl,x1⟩):P:=h
theorem outC_any (x:Int)(runes:Bool)(a b:Nat)(w:World)(ha:w.cell? ⟨a,0,none⟩=some (.int .i64 (topV runes)))(hb:w.cell? ⟨b,0,none⟩=some (.bool runes)) :
 Calls Tryz.prog 207 #[.int .i64 x,.pointer (some ⟨a,0,none⟩),.pointer (some ⟨b,0,none⟩)] w (RetV (.bool (!symV runes x)) w):=by
 have hs:=fun(w':World)=>lh (surr_any x w');cases runes
 ·have ht:topV false=255:=rfl;rw[ht] at ha;clear ht hs;by_cases h1:x<0
  ·rw[show symV false x=false by simp[symV];omega];exact K12z2
  ·by_cases h2:255<x
   ·rw[show symV false x=false by simp[symV];omega];exact K12z2
   ·rw[show symV false x=true by simp[symV];omega];exact K12z2
 ·have ht:topV true=1114111:=rfl;rw[ht] at ha;clear ht;by_cases h1:x<0
  ·rw[show symV true x=false by simp[symV];omega];exact K12z2
  ·by_cases h2:1114111<x
   ·rw[show symV true x=false by simp[symV];omega];exact K12z2
   ·by_cases h3:55296<=x/\x<=57343
    ·rw[decide_eq_true h3] at hs;rw[show symV true x=false by simp[symV];omega];exact K12z4
    ·rw[decide_eq_false h3] at hs;rw[show symV true x=true by simp[symV];omega];exact K12z4
theorem allV_bad {runes:Bool}{l:List Int}{k:Nat}(hk:k<l.length)(h:symV runes l[k]=false):l.all (symV runes)=false:=by
 rw[List.all_eq_false];exact⟨l[k],List.getElem_mem hk,by simp[h]⟩
theorem allV_step {runes:Bool}{l:List Int}{k:Nat}(hk:k<l.length)(h0:(l.take k).all (symV runes)=true)(h:symV runes l[k]=true):(l.take (k+1)).all (symV runes)=true:=by
 rw[List.take_succ_eq_append_getElem hk,List.all_append,h0];simp[h]
theorem tindex_any (A:Option Addr)(c:Nat)(l:List Int)(runes:Bool)(a b:Nat)(w:World)(hl:IL w A c l)(ha:w.cell? ⟨a,0,none⟩=some (.int .i64 (topV runes)))(hb:w.cell? ⟨b,0,none⟩=some (.bool runes)) :
 Calls Tryz.prog 206 #[.slice A l.length c,.func (Fn.func 207) #[] #[.pointer (some ⟨a,0,none⟩),.pointer (some ⟨b,0,none⟩)]] w fun e w'=>∃k:Int,e=.returned (.int .i64 k)/\(decide (0<=k) = !l.all (symV runes))/\Ext w w':=by
 obtain⟨a1,a2⟩:=hl.len;go_enter Tryz.func206,Tryz.ntmps206
 go_wp2
 go_loopw [8] (fun i wr=>∃k:Nat,k<=l.length/\i=.int .i64 k/\Hid ((l.take k).all (symV runes)=true)/\Ext w wr) (fun i _=>l.length-(intOf i).toNat)
 case atStart=>exact⟨0,Nat.zero_le _,rfl,rfl,Ext.rfl' _⟩
 case round=>
  obtain⟨k,hk,rfl,ht,hext⟩:=hrel;by_cases hlt:k<l.length
  ·obtain⟨p1,o1,rfl,g1⟩:=hl.get hlt;replace g1:=hext.cell g1;have hlt2:(k:Int)<l.length:=om;have HC:=lh (outC_any l[k] runes a b wr (hext.cell ha) (hext.cell hb));by_cases hs:symV runes l[k]=true
   ·have hs2:=lh (allV_step hlt ht.out hs);rw[hs] at HC;generalize l[k]=y at *;clear hs ht
    go_wp2_with fail
    refine HC.out.mono ?_;rintro e w1 ⟨rfl,hx1⟩;have xf:=hext.trans hx1
    go_wp2
    go_roundw
    case rel=>exact⟨k+1,om,by go_num,hs2,xf⟩
    case measure=>simp[intOf];omega
   ·have hs1:symV runes l[k]=false:=by simpa using hs
    have hbad:=lh (allV_bad hlt hs1);rw[hs1] at HC;generalize l[k]=y at *;clear hs ht hs1
    go_wp2_with fail
    refine HC.out.mono ?_;rintro e w1 ⟨rfl,hx1⟩
    go_wp2
    go_ret
    exact⟨_,rfl,by rw[hbad.out];simp,hext.trans hx1⟩
  ·go_wp2
   go_ret
   have h1:=ht.out;rw[List.take_of_length_le om] at h1;exact⟨_,rfl,by rw[h1];simp,hext⟩
theorem tcontains_any (A:Option Addr)(c:Nat)(l:List Int)(runes:Bool)(a b:Nat)(w:World)(hl:IL w A c l)(ha:w.cell? ⟨a,0,none⟩=some (.int .i64 (topV runes)))(hb:w.cell? ⟨b,0,none⟩=some (.bool runes)) :
 Calls Tryz.prog 135 #[.slice A l.length c,.func (Fn.func 207) #[] #[.pointer (some ⟨a,0,none⟩),.pointer (some ⟨b,0,none⟩)]] w (RetV (.bool (!l.all (symV runes))) w):=by
 have HX:=lh (tindex_any A c l runes a b w hl ha hb);generalize l.all (symV runes)=al at *;cases al
 ·go_enter Tryz.func135,Tryz.ntmps135
  go_wp2_with fail
  refine HX.out.mono ?_;rintro e w2 ⟨k,rfl,hk,x2⟩;have hk0:decide (0<=k)=true:=hk;clear hk
  go_wp2_with fail
  go_ret
  exact⟨rfl,x2⟩
 ·go_enter Tryz.func135,Tryz.ntmps135
  go_wp2_with fail
  refine HX.out.mono ?_;rintro e w2 ⟨k,rfl,hk,x2⟩;have hk0:decide (0<=k)=false:=hk;clear hk
  go_wp2_with fail
  go_ret
  exact⟨rfl,x2⟩
def textE (runes:Bool)(l:List Int):Int:=if 65536<l.length then 4 else if l.all (symV runes)=true then 0 else 5
theorem K12z3 {P:Prop} (h:P:=by
 go_enter Tryz.func64,Tryz.ntmps64
 go_wp2_with fail
 refine HO.out.mono ?_;rintro e w1 ⟨a,b,rfl,h1,h2,x1⟩;have HX2:=HX a b w1 x1 h1 h2;clear HX
 go_wp2_with fail
 refine HX2.out.mono ?_;rintro e w2 ⟨rfl,x2⟩
 go_wp2_with fail
 go_ret
 exact⟨rfl,x1.trans x2⟩):P:=h
theorem tvalid_any (A:Option Addr)(c:Nat)(l:List Int)(runes:Bool)(w:World)(hl:IL w A c l):Calls Tryz.prog 64 #[.slice A l.length c,.bool runes] w (RetV (.int .i64 (textE runes l)) w):=by
 have hcap:=hl.len;by_cases hb:65536<l.length
 ·have hbI:(65536:Int)<l.length:=om;have e:textE runes l=4:=by unfold textE;rw[if_pos hb]
  rw[e];clear e;go_enter Tryz.func64,Tryz.ntmps64
  go_wp2
  go_ret
  exact⟨rfl,Ext.rfl' _⟩
 ·have hbI:¬(65536:Int)<l.length:=om;have HO:=lh (outside_any runes w);have e:textE runes l=if l.all (symV runes)=true then 0 else 5:=by unfold textE;rw[if_neg hb]
  rw[e];clear e hb;have HX:=fun(a b:Nat) (w':World) (x:Ext w w') h1 h2=>lh (tcontains_any A c l runes a b w' (hl.ext x) h1 h2);generalize l.all (symV runes)=al at *;cases al
  ·exact K12z3
  ·exact K12z3
theorem zword_any (x:Int)(w:World):Calls Tryz.prog 335 #[.int .i64 x] w (RetB w):=by
 go_enter Tryz.func335,Tryz.ntmps335
 go_wp2
 all_goals
  go_ret
  exact⟨_,rfl,Ext.rfl' _⟩
theorem zin_any (A:Option Addr)(c:Nat)(l:List Sp)(x:Int)(w:World)(hs:SL w A c l):Calls Tryz.prog 315 #[.slice A l.length c,.int .i64 x] w (RetB w):=by
 have hll:=hs.len;have HS:=lh hs;clear hs;go_enter Tryz.func315,Tryz.ntmps315
 go_wp2
 go_loopw [5] (fun i wr=>∃k:Nat,k<=l.length/\i=.int .i64 k/\Ext w wr) (fun i _=>l.length-(intOf i).toNat)
 case atStart=>exact⟨0,Nat.zero_le _,rfl,Ext.rfl' _⟩
 case round=>
  obtain⟨k,hk,rfl,x1⟩:=hrel;by_cases hlt:k<l.length
  ·obtain⟨p1,o1,rfl,g1,g2⟩:=(HS.out.ext x1).get hlt;have hlt2:(k:Int)<l.length:=om
   go_wp2_with fail
   all_goals first
    | (go_ret;exact⟨_,rfl,x1⟩)
    | (
     go_roundw
     case rel=>exact⟨k+1,om,by go_num,x1⟩
     case measure=>simp[intOf];omega)
  ·have hlt2:¬(k:Int)<l.length:=om
   go_wp2_with fail
   go_ret
   exact⟨_,rfl,x1⟩
theorem zholds_any (n:Int)(T:Option Addr)(tc:Nat)(ts:List Int)(i:Nat)(w:World)(hT:IL w T tc ts)(hi:i<=ts.length) :
 Calls Tryz.prog 318 #[.int .i64 n,.slice T ts.length tc,.int .i64 i] w (RetB w):=by
 have hll:=hT.len;have HW:=fun(x:Int) (w':World)=>lh (zword_any x w');have X0:=Ext.rfl' w;by_cases h0:i=0
 ·subst h0;by_cases hl:ts.length=0
  ·have hlI:¬(0:Int)<(ts.length:Int):=om;clear hT;generalize ts.length=tn at *;subst hl;go_enter Tryz.func318,Tryz.ntmps318
   go_wp2_with (go_at_call 335;refine(HW _ _).out.mono ?_;rintro e w2 ⟨b2,rfl,x2⟩;have X2:=Ext.trans (by assumption:Ext w _) x2)
   all_goals
    go_ret
    exact⟨_,rfl,by assumption⟩
  ·have hlI:(0:Int)<(ts.length:Int):=om;obtain⟨b,o,rfl,cb⟩:=hT.get (k:=0) om;simp only[Nat.add_zero] at cb;generalize ts[0]'om=y at *;have HB:=fun(w':World) (x:Ext w w')=>x.cell cb;have hne:((0:Int) == (ts.length:Int))=false:=by simp;omega
   clear hT;generalize ts.length=tn at *;go_enter Tryz.func318,Tryz.ntmps318
   go_wp2_with (go_at_call 335;refine(HW _ _).out.mono ?_;rintro e w2 ⟨b2,rfl,x2⟩;have X2:=Ext.trans (by assumption:Ext w _) x2;have cb2:=HB _ X2)
   all_goals
    go_ret
    exact⟨_,rfl,by assumption⟩
 ·obtain⟨j,rfl⟩:∃j,i=j+1:=⟨i-1,om⟩;have hjl:j<ts.length:=om;obtain⟨b,o,rfl,ca⟩:=hT.get hjl;have HA:=fun(w':World) (x:Ext w w')=>x.cell ca;have ewj:IntKind.i64.wrap ((j:Int)+1-1)=(j:Int):=wj;have hjI:(j:Int)<(ts.length:Int):=om;have hj0:(0:Int)<(j:Int)+1:=om;have hjn:((j:Int)+1 == 0)=false:=by simp;omega
  have ecast:((j+1:Nat):Int)=(j:Int)+1:=om;rw[ecast];by_cases hl:j+1=ts.length
  ·have hlI:¬(j:Int)+1<(ts.length:Int):=om;have heq:((j:Int)+1 == (ts.length:Int))=true:=by simp;omega
   clear hT;generalize ts[j]=y at *;generalize ts.length=tn at *;go_enter Tryz.func318,Tryz.ntmps318
   go_wp2_with (go_at_call 335;refine(HW _ _).out.mono ?_;rintro e w2 ⟨b2,rfl,x2⟩;have X2:=Ext.trans (by assumption:Ext w _) x2;have ca2:=HA _ X2)
   all_goals
    go_ret
    exact⟨_,rfl,by assumption⟩
  ·have hlI:(j:Int)+1<(ts.length:Int):=om;have heq:((j:Int)+1 == (ts.length:Int))=false:=by simp;omega
   obtain⟨b',o',e1,cb⟩:=hT.get (k:=j+1) om;injection e1 with e1;injection e1 with e1 e2 _
   subst e1;subst e2;have HB:=fun(w':World) (x:Ext w w')=>x.cell cb;clear hT;generalize ts[j]=y at *;generalize ts[j+1]'om=z at *;generalize ts.length=tn at *;go_enter Tryz.func318,Tryz.ntmps318
   go_wp2_with (go_at_call 335;refine(HW _ _).out.mono ?_;rintro e w2 ⟨b2,rfl,x2⟩;have X2:=Ext.trans (by assumption:Ext w _) x2;have ca2:=HA _ X2;have cb2:=HB _ X2)
   all_goals
    go_ret
    exact⟨_,rfl,by assumption⟩
def ptB (v:Option Value):List Nat:=match v with|some (.slice (some A) _ _)=>[A.block]|_=>[]
def zL (w:World)(gs:Nat):List Nat:=gs::(ptB (w.cell? ⟨gs,5,none⟩)++ptB (w.cell? ⟨gs,6,none⟩))
theorem mem_ptB {A:Option Addr}{n c:Nat}{x:Nat}:x∈ptB (some (.slice A n c))<->A.map (·.block)=some x:=by
 cases A with
 | none=>simp[ptB]
 | some a=>simp[ptB,eq_comm]
structure ZF (gs:Nat)(a b:World):Prop where
 kp:Kp (zL a gs) a b
 old:∀x∈zL b gs,x∈zL a gs\/a.heap.size<=x
theorem zL_ext {gs:Nat}{a b:World}(x:Ext a b)(h:gs<a.heap.size):zL b gs=zL a gs:=by
 unfold zL;rw[x.cells.1 gs 5 h,x.cells.1 gs 6 h]
namespace ZF
variable {gs:Nat} {a b c w w':World}
theorem of_ext (x:Ext a b)(h:gs<a.heap.size):ZF gs a b:=⟨Kp.of_ext x,fun y hy=>.inl (by rw[zL_ext x h] at hy;exact hy)⟩
theorem refl (w:World)(h:gs<w.heap.size):ZF gs w w:=of_ext (Ext.rfl' w) h
theorem size (h:ZF gs a b):a.heap.size<=b.heap.size:=h.kp.size
theorem trans (h:ZF gs a b)(k:ZF gs b c):ZF gs a c:=
 ⟨⟨k.kp.os.trans h.kp.os,k.kp.tape.trans h.kp.tape,k.kp.output.trans h.kp.output,Nat.le_trans h.size k.size,fun i hi hn=>(k.kp.block i (Nat.lt_of_lt_of_le hi h.size) (fun hm=>by
  rcases h.old i hm with h1|h1
  ·exact hn h1
  ·omega)).trans (h.kp.block i hi hn)⟩,
  fun x hx=>by
   rcases k.old x hx with h1|h1
   ·exact h.old x h1
   ·exact .inr (Nat.le_trans h.size h1)⟩
theorem ext (h:ZF gs a b)(x:Ext b c)(hg:gs<a.heap.size):ZF gs a c:=h.trans (of_ext x (Nat.lt_of_lt_of_le hg h.size))
theorem mk2 {cs:Array Value}{eA cA:Option Addr}{en ec cn cc:Nat}(k:Kp (zL a gs) a b)(h:Blk b gs 341 cs)(h5:cs[5]? = some (.slice eA en ec))(h6:cs[6]? = some (.slice cA cn cc))
 (he:∀x,eA.map (·.block)=some x->x∈zL a gs\/a.heap.size<=x) (hc:∀x,cA.map (·.block)=some x->x∈zL a gs\/a.heap.size<=x):ZF gs a b:=
 ⟨k,fun x hx=>by
  unfold zL at hx;rw[h.cell 5,h.cell 6,h5,h6] at hx;rcases List.mem_cons.1 hx with rfl|hx
  ·exact .inl List.mem_cons_self
  rcases List.mem_append.1 hx with hx|hx
  ·exact he x (mem_ptB.1 hx)
  ·exact hc x (mem_ptB.1 hx)⟩
end ZF
section
variable {w w':World} {base gs tn tc st ns:Nat} {tA:Option Addr} {most fuel:Int} {em:Bool}
theorem SrM.typ (h:SrM w base gs tA tn tc most fuel st em ns){x:Nat}(hx:x∈zL w gs):base<=x/\∃cur T,w.heap[x]? = some (.cells cur T (0,0))/\ZT T:=by
 obtain⟨⟨eA,ec,ends,cA,cc,cps,h1,h2,h3,_⟩,hlo⟩:=h;unfold zL at hx;rw[h1.cell 5,h1.cell 6] at hx;rcases List.mem_cons.1 hx with rfl|hx
 ·exact⟨hlo,_,_,h1,.inl rfl⟩
 rcases List.mem_append.1 hx with hx|hx
 ·have hx:=mem_ptB.1 hx;obtain⟨_,cur,e⟩:=OwnS.blt h2 hx;exact⟨OwnS.row h2 _ hx,cur,_,e,.inr (.inl rfl)⟩
 ·have hx:=mem_ptB.1 hx;obtain⟨_,cur,e⟩:=OwnS.blt h3 hx;exact⟨OwnS.row h3 _ hx,cur,_,e,.inr (.inr rfl)⟩
theorem SrM.gs_lt (h:SrM w base gs tA tn tc most fuel st em ns):gs<w.heap.size:=by
 obtain⟨⟨_,_,_,_,_,_,h1,_⟩,_⟩:=h;exact h1.lt
theorem ZF.blk {g T:Nat}{ds:Array Value}(k:ZF gs w w')(h:SrM w base gs tA tn tc most fuel st em ns)(hb:Blk w g T ds)(hT:¬ZT T):Blk w' g T ds:=
 (k.kp.block g hb.lt (fun hm=>by
  obtain⟨_,cur,T2,e,h2⟩:=h.typ hm;have e2:=hb.symm.trans e;injection e2 with e2;injection e2 with _ e2 _
  exact hT (e2▸h2))).trans hb
variable {bd n:Nat} {w0:World} {kb kb':Int} {p:Option Nat}
theorem GoalAt.zf (h:GoalAt bd w0 w kb n p)(hs:SrM w base gs tA tn tc most fuel st em ns)(k:ZF gs w w'):GoalAt bd w0 w' kb n p:=by
 induction h with
 | nil=>exact .nil
 | mk g kind k2 fr nd d h1 h2 h3 h4 _ ih=>exact .mk g kind k2 fr nd d (k.blk hs h1 de) h2 h3 h4 ih
theorem CapAt.zf {A:Option Addr}{c:Nat}{l:List Sp}(h:CapAt w A c l)(hs:SrM w base gs tA tn tc most fuel st em ns)(k:ZF gs w w'):CapAt w' A c l:=by
 have hn:∀b,A.map (·.block)=some b->¬b∈zL w gs:=fun b hb hq=>by
  obtain⟨cur,hh⟩:=h.2 b hb;obtain⟨_,cur2,T2,e,h2⟩:=hs.typ hq;have e2:=hh.symm.trans e;injection e2 with e2;injection e2 with _ e2 _
  exact absurd (e2▸h2:ZT 54) de
 have kk:KpP (·∈zL w gs) w w':=⟨k.kp.os,k.kp.tape,k.kp.output,k.kp.size,k.kp.block⟩;refine⟨h.1.kpZ kk (fun _ b hb=>hn b hb),fun b hb=>?_⟩;obtain⟨cur,hh⟩:=h.2 b hb;exact⟨cur,(k.kp.block b (Array.getElem?_eq_some_iff.1 hh).1 (hn b hb)).trans hh⟩
end
def RetF (w0:World)(gs:Nat)(tA:Option Addr)(tn tc:Nat)(most:Int)(fuel:Nat)(st ns:Nat)(w:World)(e:Ending)(w':World):Prop:=
 ∃(b:Bool) (st':Nat) (em:Bool) (ns':Nat),e=.returned (.bool b)/\SrM w' w0.heap.size gs tA tn tc most fuel st' em ns'/\Ext w0 w'/\ZF gs w w'/\st<=st'/\ns<=ns'/\ns'<=ns+3*(st'-st)+1/\
  ((em=false/\st'<=fuel)\/(em=true/\b=true/\st'=fuel+1))
def RetStp (w0:World)(gs:Nat)(tA:Option Addr)(tn tc:Nat)(most:Int)(fuel:Nat)(st ns:Nat)(w:World)(e:Ending)(w':World):Prop:=
 e=.returned (.bool (decide (st+1<=fuel)))/\SrM w' w0.heap.size gs tA tn tc most fuel (st+1) (!decide (st+1<=fuel)) ns/\Ext w0 w'/\ZF gs w w'
theorem zL_mem {w:World}{gs T:Nat}{cs:Array Value}{eA cA:Option Addr}{en ec cn cc:Nat}(h:Blk w gs T cs)(h5:cs[5]? = some (.slice eA en ec))(h6:cs[6]? = some (.slice cA cn cc)) :
 (∀x,eA.map (·.block)=some x->x∈zL w gs)/\(∀x,cA.map (·.block)=some x->x∈zL w gs):=by
 unfold zL;rw[h.cell 5,h.cell 6,h5,h6];exact⟨fun x hx=>List.mem_cons_of_mem _ (List.mem_append.2 (.inl (mem_ptB.2 hx))),fun x hx=>List.mem_cons_of_mem _ (List.mem_append.2 (.inr (mem_ptB.2 hx)))⟩
theorem SrM.put {w:World}{base gs:Nat}{eA cA:Option Addr}{ec cc:Nat}{ends:List Int}{cps:List Value}{i:Nat}{v:Value}{cs:Array Value}
 (hb:Blk w gs 341 cs) (h5:cs[5]? = some (.slice eA ends.length ec)) (h6:cs[6]? = some (.slice cA cps.length cc)) (hi:i≠5/\i≠6)
 (he:OwnI w base 3 eA ec ends) (hc:OwnS w base 37 1 cA cps.length cc cps) :
 OwnI (w.setCell ⟨gs,i,none⟩ v) base 3 eA ec ends/\OwnS (w.setCell ⟨gs,i,none⟩ v) base 37 1 cA cps.length cc cps/\ZF gs w (w.setCell ⟨gs,i,none⟩ v):=by
 have hm:=zL_mem hb h5 h6;refine⟨OwnS.far he (p:=⟨gs,i,none⟩) (own_blk he hb de) v,OwnS.far hc (p:=⟨gs,i,none⟩) (own_blk hc hb de) v,?_⟩;refine ZF.mk2 (Kp.set (Kp.refl _ _) (p:=⟨gs,i,none⟩) (.inl List.mem_cons_self) v) (hb.set i v) (eA:=eA) (en:=ends.length) (ec:=ec) (cA:=cA) (cn:=cps.length) (cc:=cc) ?_ ?_ (fun x hx=>.inl (hm.1 x hx)) (fun x hx=>.inl (hm.2 x hx))
 ·rw[Array.getElem?_setIfInBounds,if_neg hi.1];exact h5
 ·rw[Array.getElem?_setIfInBounds,if_neg hi.2];exact h6
theorem zstep_any (w0 w:World)(gs:Nat)(tA:Option Addr)(tn tc:Nat)(most:Int)(fuel st ns:Nat)(h:SrM w w0.heap.size gs tA tn tc most fuel st false ns)(x0:Ext w0 w)(hst:st<=fuel)(hf:fuel<=1000000000000) :
 Calls Tryz.prog 314 #[.pointer (some ⟨gs,0,none⟩)] w (RetStp w0 gs tA tn tc most fuel st ns w):=by
 obtain⟨⟨eA,ec,ends,cA,cc,cps,hb,he,hc,h1,h2,h3,h4⟩,hlo⟩:=h;obtain⟨he1,hc1,z1⟩:=SrM.put (i:=3) (v:=.int .i64 ((st:Int)+1)) hb rfl rfl om he hc;have hb1:=hb.set 3 (.int .i64 ((st:Int)+1));have x1:Ext w0 (w.setCell ⟨gs,3,none⟩ (.int .i64 ((st:Int)+1))):=x0.setNew (p:=⟨gs,3,none⟩) hlo _;have c3:w.cell? ⟨gs,3,none⟩=some (.int .i64 st):=hb.cell 3;have f3:=hb.frz 3;have ewp:IntKind.i64.wrap ((st:Int)+1)=(st:Int)+1:=wj;have HE:=lh h1;have HC:=lh h2;have H3:=lh h3;have H4:=lh h4;have HX1:=lh x1;have HE1:=lh he1;have HC1:=lh hc1;have HZ1:=lh z1;have HGL:=lh hb.lt;have HB1:Hid (Blk (w.setCell ⟨gs,3,none⟩ (.int .i64 ((st:Int)+1))) gs 341 #[.slice tA tn tc,.int .i64 most,.int .i64 fuel,.int .i64 ((st:Int)+1),.bool false,.slice eA ends.length ec,.slice cA cps.length cc]):=lh (by simpa using hb1);clear h1 h2 h3 h4 x1 he1 hc1 z1 he hc hb hb1;go_enter Tryz.func314,Tryz.ntmps314
 go_upto_region 2 with fail
 generalize w.setCell ⟨gs,3,none⟩ (.int .i64 ((st:Int)+1))=wa at *;clear c3 f3;have c2:wa.cell? ⟨gs,2,none⟩=some (.int .i64 fuel):=HB1.out.cell 2;have c3:wa.cell? ⟨gs,3,none⟩=some (.int .i64 ((st:Int)+1)):=HB1.out.cell 3;have c4:wa.cell? ⟨gs,4,none⟩=some (.bool false):=HB1.out.cell 4;have f4:=HB1.out.frz 4;by_cases hlt:st+1<=fuel
 ·have hgt:¬((fuel:Int)<(st:Int)+1):=om
  go_wp2_with (go_quiet (fail))
  go_ret
  have xd:=Ext.drewN wa nq;refine⟨by simp[hlt],⟨⟨eA,ec,ends,cA,cc,cps,?_,OwnS.ext HE1.out xd,OwnS.ext HC1.out xd,HE.out,HC.out,H3.out,H4.out⟩,hlo⟩,HX1.out.trans xd,HZ1.out.ext xd HGL.out⟩;have b:=HB1.out.ext xd
  simpa[hlt] using b
 ·have hgt:(fuel:Int)<(st:Int)+1:=om
  go_upto_region 3 with(go_quiet (fail))
  have xd:=Ext.drewN wa nq;have HB2:=lh (HB1.out.ext xd);have HX2:=lh (HX1.out.trans xd);have HE2:=lh (OwnS.ext HE1.out xd);have HC2:=lh (OwnS.ext HC1.out xd);have HZ2:=lh (HZ1.out.ext xd HGL.out);clear xd c2 c3 c4 f4 HB1 HX1 HE1 HC1 HZ1;generalize wa.drewN nq=wb at *;have f4:=HB2.out.frz 4;have c4:wb.cell? ⟨gs,4,none⟩=some (.bool false):=HB2.out.cell 4;obtain⟨he3,hc3,z3⟩:=SrM.put (i:=4) (v:=.bool true) HB2.out rfl rfl om HE2.out HC2.out;have hb3:=HB2.out.set 4 (.bool true);have x3:Ext w0 (wb.setCell ⟨gs,4,none⟩ (.bool true)):=HX2.out.setNew (p:=⟨gs,4,none⟩) hlo _
  go_wp2_with fail
  go_ret
  refine⟨by simp[hlt],⟨⟨eA,ec,ends,cA,cc,cps,?_,he3,hc3,HE.out,HC.out,H3.out,H4.out⟩,hlo⟩,x3,HZ2.out.trans z3⟩
  simpa[hlt] using hb3
def RetWi (n:Nat)(w:World)(e:Ending)(w':World):Prop:=∃(A:Option Addr) (c:Nat) (l:List Sp),e=.returned (.slice A l.length c)/\l.length=n/\CapAt w' A c l/\Ext w w'
theorem flatS_set2:∀(l:List Sp) (m:Nat) (p q:Int),m<l.length->((flatS l).set (m*2) (.int .i64 p)).set (m*2+1) (.int .i64 q)=flatS (l.set m (p,q))
 | [],m,p,q,h=>by simp at h
 | s::l,0,p,q,_=>by simp[flatS]
 | s::l,m+1,p,q,h=>by
  have ih:=flatS_set2 l m p q (by simpa using h);have e:(m+1)*2=m*2+1+1:=om;rw[e];have e2:flatS (s::l)=.int .i64 s.1::.int .i64 s.2::flatS l:=by simp[flatS]
  rw[e2];simp only[List.set_cons_succ];rw[ih];simp[flatS]
theorem cap_of_own {w:World}{base c:Nat}{A:Option Addr}{l:List Sp}(h:OwnS w base 54 2 A l.length c (flatS l))(hr:∀s∈l,S64 s):CapAt w A c l:=
 ⟨SL.of_ownT h hr,fun b hb=>(OwnS.blt h hb).2⟩
theorem zwith_any (w:World)(A:Option Addr)(c:Nat)(l:List Sp)(n p q:Int)(hC:CapAt w A c l)(hl:l.length<=1000)(hn:I64 n)(hp:I64 p)(hq:I64 q) :
 Calls Tryz.prog 279 #[.slice A l.length c,.int .i64 n,.int .i64 p,.int .i64 q] w (RetWi l.length w):=by
 obtain⟨iA,jA0,jA1,jA2,jA3⟩:=info_parts infoA2;have hll:=hC.1.len;have E0:=Ext.alloc w (.cells #[] 54);have HO:Hid (OwnS (w.alloc (.cells #[] 54)) w.heap.size 54 2 (some ⟨w.heap.size,0,none⟩) 0 0 []):=lh (OwnS.of_blk (n:=0) (c:=0) (Blk.new w 54 #[]) (Nat.le_refl _) si si um);have HCL:=lh (hC.1.ext E0).cells;have HR:=lh hC.1.rng;have HN:=lh hn;have HPQ:=lh (show S64 (p,q) from⟨hp,hq⟩);clear hC hp hq hn;go_enter Tryz.func279,Tryz.ntmps279
 go_upto_region 2 with(at_builtin;refine wpList_app _ rfl _ _ _ rfl w.heap.size 54 iA _ 2 16 Tryz.underlying37 jA0 jA1 jA2 jA3 rfl om _ 0 0 [] rfl HO.out _ l.length c (flatS l) rfl (flatS_len l) HCL.out (flatS_one _) um om si ?_;intro A2 c2 w2 ho2 hg2 hat2)
 have x2:=E0.app HO.out hg2;simp only[Nat.zero_add,List.nil_append] at ho2 ⊢;have hc2:=OwnS.caps ho2;have HO2:=lh ho2;clear E0 HO HCL hg2 hat2 ho2;by_cases h1:1<=n
 ·by_cases h2:n<=l.length
  ·obtain⟨m,rfl⟩:∃m:Nat,n=(m:Int)+1:=⟨(n-1).toNat,om⟩;have hm:m<l.length:=om;have ewp:IntKind.i64.wrap ((m:Int)+1-1)=(m:Int):=by have:=HN.out;unfold I64 at this;rw[IntKind.wrap_i64];omega
   have hmI:(m:Int)<l.length:=om;have hfl:m*2<(flatS l).length:=by rw[flatS_len];omega
   obtain⟨g,rfl,hbg,g1,gf,glt,gst⟩:=OwnS.store HO2.out hfl;have ho3:=gst (.int .i64 p);have hfl2:m*2+1<((flatS l).set (m*2) (.int .i64 p)).length:=by rw[List.length_set,flatS_len];omega
   obtain⟨g',he,_,k1,kf,klt,kst⟩:=OwnS.store ho3 hfl2;injection he with he;injection he with he _ _
   subst he;have ho4:=kst (.int .i64 q);rw[flatS_set2 _ _ _ _ hm] at ho4;have x4:Ext w ((w2.setCell ⟨g,m*2,none⟩ (.int .i64 p)).setCell ⟨g,m*2+1,none⟩ (.int .i64 q)):=(x2.setNew (p:=⟨g,m*2,none⟩) hbg _).setNew (p:=⟨g,m*2+1,none⟩) hbg _;obtain⟨z,k0⟩:∃z,w2.cell? ⟨g,m*2+1,none⟩=some z:=by
    have hfl3:m*2+1<(flatS l).length:=by rw[flatS_len];omega
    obtain⟨g',he,_,k1,_⟩:=OwnS.store HO2.out hfl3;injection he with he;injection he with he _ _
    subst he;exact⟨_,k1⟩
   have kf0:w2.frozen? ⟨g,m*2+1,none⟩=false:=by
    have hfl3:m*2+1<(flatS l).length:=by rw[flatS_len];omega
    obtain⟨g',he,_,_,k1,_⟩:=OwnS.store HO2.out hfl3;injection he with he;injection he with he _ _
    subst he;exact k1
   have HO4:=lh ho4;have HX4:=lh x4;clear ho3 ho4 x4 gst kst k1 kf klt
   go_wp2_with fail
   go_ret
   refine⟨some ⟨g,0,none⟩,c2,l.set m (p,q),by simp,by simp,?_,HX4.out⟩;have ho:=HO4.out;rw[show l.length=(l.set m (p,q)).length from by simp] at ho;exact cap_of_own ho (fun s hs=>by
    rcases List.mem_or_eq_of_mem_set hs with h|h
    ·exact HR.out s h
    ·exact h▸HPQ.out)
  ·go_wp2_with fail
   go_ret
   exact⟨_,_,l,rfl,rfl,cap_of_own HO2.out HR.out,x2⟩
 ·go_wp2_with fail
  go_ret
  exact⟨_,_,l,rfl,rfl,cap_of_own HO2.out HR.out,x2⟩
end
end Go.Proofs.YtmgpefenkilffaaGreat
