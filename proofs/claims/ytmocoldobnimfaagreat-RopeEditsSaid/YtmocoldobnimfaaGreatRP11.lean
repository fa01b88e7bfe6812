/- Texts of this proof: Cat P5 P6 P9 C0. -/
import Derived.Test.YtmocoldobnimfaaGreatRP09
import Derived.Lib.AppendZeros
import Derived.Laws.BytesArg
import Derived.Laws.StructEq
set_option linter.all false
set_option maxHeartbeats 2000000
namespace Go.Proofs.YtmocoldobnimfaaGreat
section
open Go.RowKit
def growW (w:World)(n:Nat):World:=w.drew.alloc (.cells (Builtin.zeroCells (Value.int .i64 0).cells n++Builtin.zeroCells (Value.int .i64 0).cells (grownCap w n 0 3-n)) 3)
def growC (w:World)(n:Nat):Nat:=grownCap w n 0 3
theorem growC_bd (w:World)(n:Nat)(h:n≤1099511627776):n≤growC w n∧growC w n≤9223372036854775807:=
 ⟨grownCap_ge w n 0 _,by have:=grownCap_le_maxLen w n 0 3 um;unfold maxLen at this;unfold growC;omega⟩
theorem growW_run (w:World)(n:Nat)(h:0<n∧n≤1099511627776) :
 (Builtin.append_ #[22,3] 22 #[.slice none 0 0,.int .i64 n]).run Tryz.prog w=.ok (.slice (some ⟨w.heap.size,0,none⟩) n (growC w n)) (growW w n):=by
 obtain⟨i0,hi0,hz0,hz1,hz2⟩:=info_parts infoInt;exact Lib.run_append_nil_zeros (P:=Tryz.prog) w 22 3 22 3 i0 (.int .i64 0) .i64 .i64 Tryz.underlying22 Tryz.underlying3 hi0 hz0 n om om om (by rw[hz2];omega)
theorem growW_ext (w:World)(n:Nat):Ext w (growW w n):=(Ext.drew w).trans (Ext.alloc w.drew _)
theorem growW_own (w:World)(n:Nat)(h:n≤1099511627776):OwnS (growW w n) w.heap.size 3 1 (some ⟨w.heap.size,0,none⟩) 0 (growC w n) []:=by
 have hb:=growC_bd w n h;have hS:(Builtin.zeroCells (Value.int .i64 0).cells n++Builtin.zeroCells (Value.int .i64 0).cells (growC w n-n)).size=growC w n*1:=by
  simp[Builtin.zeroCells,Value.cells];omega
 have h1:=OwnS.of_blk (base:=w.heap.size) (c:=growC w n) (n:=0) (Blk.new w.drew 3 (Builtin.zeroCells (Value.int .i64 0).cells n++Builtin.zeroCells (Value.int .i64 0).cells (growC w n-n))) (Nat.le_refl _) hS (Nat.zero_le _) um;have h2:OwnS (w.drew.alloc (.cells (Builtin.zeroCells (Value.int .i64 0).cells n++Builtin.zeroCells (Value.int .i64 0).cells (growC w n-n)) 3)) w.heap.size 3 1 (some ⟨w.heap.size,0,none⟩) 0 (growC w n) []:=by simpa using h1
 exact h2
theorem grow_nil (n:Nat)(w:World)(hn:n≤1099511627776) :
 Calls Tryz.prog 138 #[.slice none 0 0,.int .i64 n] w fun e w'=>∃A c,e=.returned (.slice A 0 c)∧OwnI w' w.heap.size 3 A c []∧Ext w w':=by
 by_cases h0:n=0
 ·subst h0;go_enter Tryz.func138,Tryz.ntmps138
  go_wp2
  go_ret
  exact⟨none,0,rfl,OwnS.nil _ _ _ _,Ext.rfl' _⟩
 ·have hn0:(0:Int)<n:=om;have hnI:(n:Int)≤9223372036854775807:=om;have HB:=lh (show 0<n∧n≤1099511627776 by omega);obtain⟨hge,hle⟩:=growC_bd w n hn;clear h0 hn;go_enter Tryz.func138,Tryz.ntmps138
  go_wp2_with ((at_builtin;refine Lib.wpList_append_run _ rfl _ _ _ _ rfl _ _ rfl rfl _ _ (growW_run w n HB.out) ?_))
  go_ret
  exact⟨_,_,rfl,growW_own w n HB.out.2,growW_ext w n⟩
structure LL (w:World)(A:Option Addr)(c:Nat)(xss:List (List Int)):Prop where
 le:xss.length≤c
 cap:c≤maxLen
 at_:xss≠[]→∃b o,A=some ⟨b,o,none⟩∧∀i (h:i<xss.length),∃B d,w.cell? ⟨b,o+i,none⟩=some (.slice B xss[i].length d)∧IL w B d xss[i]
theorem LL.ext {w w':World}{A:Option Addr}{c:Nat}{xss:List (List Int)}(h:LL w A c xss)(k:Ext w w'):LL w' A c xss:=by
 refine⟨h.le,h.cap,fun hn=>?_⟩;obtain⟨b,o,rfl,hc⟩:=h.at_ hn;refine⟨b,o,rfl,fun i hi=>?_⟩;obtain⟨B,d,h1,h2⟩:=hc i hi;exact⟨B,d,k.cell h1,h2.ext k⟩
theorem LL.get {w:World}{A:Option Addr}{c:Nat}{xss:List (List Int)}(h:LL w A c xss){k:Nat}(hk:k<xss.length) :
 ∃b o B d,A=some ⟨b,o,none⟩∧w.cell? ⟨b,o+k,none⟩=some (.slice B xss[k].length d)∧IL w B d xss[k]:=by
 obtain⟨b,o,rfl,hc⟩:=h.at_ (by intro h0;subst h0;simp at hk);obtain⟨B,d,h1,h2⟩:=hc k hk;exact⟨b,o,B,d,rfl,h1,h2⟩
theorem LL.three {w:World}{g T:Nat}{A B C:Option Addr}{a b c:Nat}{x y z:List Int}
 (h:Blk w g T #[.slice A x.length a,.slice B y.length b,.slice C z.length c]) (hx:IL w A a x) (hy:IL w B b y) (hz:IL w C c z):LL w (some ⟨g,0,none⟩) 3 [x,y,z]:=
 ⟨by simp,by unfold maxLen;omega,fun _=>⟨g,0,rfl,fun i hi=>by
  match i,hi with
  | 0,_=>exact⟨A,a,h.cell 0,hx⟩
  | 1,_=>exact⟨B,b,h.cell 1,hy⟩
  | 2,_=>exact⟨C,c,h.cell 2,hz⟩⟩⟩
theorem flatten_take_succ (xss:List (List Int))(k:Nat)(h:k<xss.length):(xss.take (k+1)).flatten=(xss.take k).flatten++xss[k]:=by
 rw[List.take_succ_eq_append_getElem h,List.flatten_append];simp
theorem flatten_take_le (xss:List (List Int))(k:Nat):(xss.take k).flatten.length≤xss.flatten.length:=by
 conv=>rhs;rw[←List.take_append_drop k xss,List.flatten_append,List.length_append]
 omega
def lenTo (xss:List (List Int))(k:Nat):Nat:=(xss.take k).flatten.length
theorem lenTo_succ (xss:List (List Int))(k:Nat)(h:k<xss.length):lenTo xss (k+1)=lenTo xss k+xss[k].length:=by
 unfold lenTo;rw[flatten_take_succ xss k h,List.length_append]
theorem lenTo_le (xss:List (List Int))(k:Nat):lenTo xss k≤xss.flatten.length:=flatten_take_le xss k
theorem lenTo_all (xss:List (List Int)):lenTo xss xss.length=xss.flatten.length:=by unfold lenTo;rw[List.take_length]
theorem OwnS.lower {w:World}{base base' e size n c:Nat}{A:Option Addr}{xs:List Value}(h:OwnS w base e size A n c xs)(hb:base'≤base):OwnS w base' e size A n c xs:=by
 refine⟨h.1,?_⟩;rcases h.2 with h|⟨g,cap,cur,h1,h2,h3⟩
 ·exact Or.inl h
 ·exact Or.inr ⟨g,cap,cur,h1,Nat.le_trans hb h2,h3⟩
theorem concat_any (A:Option Addr)(c:Nat)(xss:List (List Int))(w:World)(hl:LL w A c xss)(hb:xss.flatten.length≤1099511627776) :
 Calls Tryz.prog 98 #[.slice A xss.length c] w (RetIL xss.flatten w):=by
 obtain⟨i0,hi0,hz0,hz1,hz2⟩:=info_parts infoInt;obtain⟨a1,a2⟩:=(⟨hl.le,by have:=hl.cap;unfold maxLen at this;omega⟩:xss.length≤c∧c≤9223372036854775807);have HB:=lh hb;clear hb;go_enter Tryz.func98,Tryz.ntmps98
 go_wp2
 go_loopw [3,11] (fun s i wr=>∃k:Nat,k≤xss.length∧i=.int .i64 k∧s=.int .i64 (lenTo xss k:Nat)∧Ext w wr) (fun _ i _=>xss.length-(intOf i).toNat)
 case atStart=>exact⟨0,Nat.zero_le _,rfl,rfl,Ext.rfl' _⟩
 case round=>
  obtain⟨k,hk,rfl,rfl,hext⟩:=hrel;by_cases hlt:k<xss.length
  ·obtain⟨p1,o1,B,d,rfl,g1,i1⟩:=hl.get hlt;replace g1:=hext.cell g1;have hb1:=World.block_lt_of_cell? _ _ g1;have hlt2:(k:Int)<xss.length:=om;have hs:=lenTo_succ xss k hlt;have hs2:=lenTo_le xss (k+1);have hB:=HB.out;have hs3:(lenTo xss k:Int)+(xss[k].length:Int)≤1099511627776:=om;have hqm:((lenTo xss k:Int)+(xss[k].length:Int))=((lenTo xss (k+1):Nat):Int):=om;have HQ:=lh hqm;clear hB hs2 hs hqm;generalize xss[k].length=m at *;generalize lenTo xss k=q at *;have hneg:¬((q:Int)+(m:Int)<0):=om;have hneg2:0≤(q:Int)+(m:Int):=om
   go_wp2
   go_roundw
   case rel=>exact⟨k+1,om,by go_num,by rw[←HQ.out],hext⟩
   case measure=>simp[intOf];omega
  ·have hk':k=xss.length:=om;subst hk';have hN:=lenTo_all xss;have hB:=HB.out
   rw[←hN] at hB;have HN:=lh hN;have HG:=lh hB;clear hN hB
   go_wp2_with fail
   refine(grow_nil (lenTo xss xss.length) _ HG.out).mono ?_;rintro e w1 ⟨A1,c1,rfl,ho,hx⟩;replace ho:OwnI w1 w.heap.size 3 A1 c1 []:=OwnS.lower ho hext.size;replace hext:=hext.trans hx;clear hx HG
   go_wp2
   go_loopw [6,27] (fun v i wr=>∃(k:Nat) (A':Option Addr) (c':Nat),k≤xss.length∧i=.int .i64 k∧v=.slice A' (lenTo xss k) c'∧OwnI wr w.heap.size 3 A' c' (xss.take k).flatten∧Ext w wr) (fun _ i _=>xss.length-(intOf i).toNat)
   case atStart=>exact⟨0,A1,c1,Nat.zero_le _,rfl,rfl,ho,hext⟩
   case round=>
    clear ho hext;obtain⟨k,A',c',hk,rfl,rfl,hown,hext⟩:=hrel;by_cases hlt:k<xss.length
    ·obtain⟨p1,o1,B,d,rfl,g1,i1⟩:=hl.get hlt;replace g1:=hext.cell g1;replace i1:=i1.ext hext;have hb1:=World.block_lt_of_cell? _ _ g1;have hlt2:(k:Int)<xss.length:=om;have hs:=flatten_take_succ xss k hlt;have hs2:=lenTo_le xss (k+1);have hs3:=lenTo_succ xss k hlt;have hB:=HB.out;have hzl:lenTo xss k=(xss.take k).flatten.length:=rfl;have H63:=lh (show lenTo xss k+xss[k].length≤maxLen by unfold maxLen;omega);have H8:=lh (show(lenTo xss k+xss[k].length)*8≤140737488355328 by omega);have HCL:=lh i1.cells;have H1:=lh (ints_one xss[k]);have HSZ:=lh hext.size;have HS:=lh hs;have HS3:=lh hs3;have HO:=lh hown;unfold OwnI at HO
     rw[←hzl] at HO;clear hs hs3 hs2 i1 hown hB hzl;generalize xss[k]=ys at *;generalize (xss.take k).flatten=zs at *;generalize hq:lenTo xss k=q at *;clear hq
     go_wp2_with ((at_builtin;refine wpList_app _ rfl _ _ _ rfl w.heap.size 3 i0 (.int .i64 0) 1 8 Tryz.underlying22 hi0 hz0 hz1 hz2 rfl om _ q c' (zs.map (Value.int .i64)) rfl HO.out _ ys.length d (ys.map (Value.int .i64)) rfl si HCL.out H1.out H63.out H8.out HSZ.out ?_;intro A2 c2 w2 hown2 hg2 _))
     have hx2:=hext.app HO.out hg2;go_roundw
     case rel=>exact⟨k+1,A2,c2,om,by go_num,by rw[HS3.out],by have h9:=HS3.out;unfold lenTo at h9;unfold OwnI;rw[h9,HS.out,List.map_append];exact hown2,hx2⟩
     case measure=>simp[intOf];omega
    ·have hk':k=xss.length:=om;subst hk';rw[List.take_length] at hown;have hrng:∀x∈xss.flatten,I64 x:=by
      intro x hx;obtain⟨l,hl1,hl2⟩:=List.mem_flatten.1 hx;obtain⟨j,hj,rfl⟩:=List.getElem_of_mem hl1;obtain⟨_,_,B,d,_,_,i1⟩:=hl.get hj;exact i1.rng x hl2
     have HO:=lh hown;have HR:=lh hrng;clear hown hrng
     go_wp2
     go_ret
     exact⟨A',c',by rw[←HN.out];rfl,IL.of_own HO.out HR.out,hext,OwnS.row HO.out⟩
end
def symAt (G:List Ins)(c:Int)(p:Nat):Bool:=match G[p]? with|some i=>decide (i.op=1)&&has i.set c|none=>false
def nextG (G:List Ins)(l:St)(c:Int):St:=stateG G ((l.filter (symAt G c)).map (·+1))
def doneG (G:List Ins)(l:St):Bool:=match l.getLast? with|some p=>isD G p|none=>false
theorem nextG_nil (G:List Ins)(c:Int):nextG G [] c=[]:=rfl
theorem doneG_nil (G:List Ins):doneG G []=false:=rfl
theorem doneG_last {G:List Ins}{l:St}(h:l≠[]):doneG G l=isD G (l.getLast h):=by
 unfold doneG;rw[List.getLast?_eq_some_getLast h]
theorem nextG_alike {G:List Ins}{a b:Int}(h:∀i∈G,i.op=1→has i.set a=has i.set b)(l:St):nextG G l a=nextG G l b:=by
 have e:∀p,symAt G a p=symAt G b p:=fun p=>by
  unfold symAt
  cases hg:G[p]? with
  | none=>rfl
  | some i=>
   simp only
   by_cases h1:i.op=1
   ·rw[h i (List.mem_of_getElem? hg) h1]
   ·simp[h1]
 unfold nextG;rw[List.filter_congr (fun p _=>e p)]
def InsAt (G:List Ins)(p:Nat):Prop:=∃h:p<G.length,G[p].op≠2∧G[p].op≠3∧G[p].op≠4
theorem addR_in (G:List Ins):∀f s pc,(∀p∈s.1,InsAt G p)→∀p∈(addR G f s pc).1,InsAt G p
 | 0,s,pc,h=>by unfold addR;exact h
 | f+1,s,pc,h=>by
  unfold addR
  split
  ·exact h
  ·split
   ·exact h
   ·rename_i i hi
    obtain⟨hlt,he⟩:=List.getElem?_eq_some_iff.1 hi
    split
    ·exact addR_in G f _ _ (addR_in G f _ _ h)
    ·split
     ·exact addR_in G f _ _ h
     ·split
      ·exact addR_in G f _ _ h
      ·rename_i h2 h3 h4
       intro p hp;rcases List.mem_append.1 hp with hp|hp
       ·exact h p hp
       ·have:p=pc:=by simpa using hp
        subst this;exact⟨hlt,by rw[he];exact⟨h2,h3,h4⟩⟩
theorem foldR_in (G:List Ins)(N:Nat):∀(r:List Nat) (s:List Nat×List Nat),(∀p∈s.1,InsAt G p)→∀p∈(r.foldl (addR G N) s).1,InsAt G p
 | [],s,h=>h
 | q::r,s,h=>foldR_in G N r _ (addR_in G N s q h)
theorem cutD_sub {G:List Ins}:∀{l:List Nat} {p:Nat},p∈cutD G l→p∈l
 | q::r,p,h=>by
  unfold cutD at h
  split at h
  ·have:p=q:=by simpa using h
   subst this;simp
  ·rcases List.mem_cons.1 h with rfl|h
   ·simp
   ·exact List.mem_cons_of_mem _ (cutD_sub h)
theorem stateG_in (G:List Ins)(r:List Nat):∀p∈stateG G r,InsAt G p:=fun p hp=>foldR_in G _ r ([],[]) si p (cutD_sub hp)
theorem addR_seen (G:List Ins):∀f s pc,s.2.length≤(addR G f s pc).2.length
 | 0,s,pc=>Nat.le_refl _
 | f+1,s,pc=>by
  unfold addR
  split
  ·exact Nat.le_refl _
  ·split
   ·exact Nat.le_refl _
   ·rename_i i _
    have h1:s.2.length≤(s.2++[pc]).length:=by simp
    split
    ·exact Nat.le_trans h1 (Nat.le_trans (addR_seen G f (s.1,s.2++[pc]) i.x.toNat) (addR_seen G f _ i.y.toNat))
    ·split
     ·exact Nat.le_trans h1 (addR_seen G f (s.1,s.2++[pc]) i.x.toNat)
     ·split
      ·exact Nat.le_trans h1 (addR_seen G f (s.1,s.2++[pc]) (pc+1))
      ·exact h1
def SeenOk (n:Nat)(seen:List Nat):Prop:=seen.Nodup∧∀p∈seen,p<n
theorem SeenOk.nil (n:Nat):SeenOk n []:=⟨by simp,by simp⟩
theorem SeenOk.len {n:Nat}{seen:List Nat}(h:SeenOk n seen):seen.length≤n:=by
 have h1:=List.Nodup.length_le_of_subset (l₁:=seen) (l₂:=List.range n) h.1 (fun p hp=>List.mem_range.2 (h.2 p hp))
 rwa [List.length_range] at h1
theorem SeenOk.snoc {n:Nat}{seen:List Nat}(h:SeenOk n seen){pc:Nat}(hp:pc<n)(hn:pc∉seen):SeenOk n (seen++[pc]):=by
 refine⟨?_,fun p hp2=>?_⟩
 ·rw[List.nodup_append];exact⟨h.1,by simp,fun a ha b hb=>by
   have:b=pc:=by simpa using hb
   subst this;rintro rfl;exact hn ha⟩
 ·rcases List.mem_append.1 hp2 with h1|h1
  ·exact h.2 p h1
  ·have:p=pc:=by simpa using h1
   omega
theorem addR_ok {G:List Ins}:∀f s pc,SeenOk G.length s.2→SeenOk G.length (addR G f s pc).2
 | 0,s,pc,h=>h
 | f+1,s,pc,h=>by
  unfold addR
  split
  ·exact h
  ·rename_i hn
   split
   ·exact h
   ·rename_i i hi
    obtain⟨hlt,_⟩:=List.getElem?_eq_some_iff.1 hi;have h1:=h.snoc hlt hn
    split
    ·exact addR_ok f _ _ (addR_ok f (s.1,s.2++[pc]) _ h1)
    ·split
     ·exact addR_ok f (s.1,s.2++[pc]) _ h1
     ·split
      ·exact addR_ok f (s.1,s.2++[pc]) _ h1
      ·exact h1
theorem addR_len (G:List Ins):∀f s pc,(addR G f s pc).1.length+s.2.length≤s.1.length+(addR G f s pc).2.length
 | 0,s,pc=>by unfold addR;omega
 | f+1,s,pc=>by
  unfold addR
  split
  ·omega
  ·split
   ·omega
   ·rename_i i _
    have h1:(s.2++[pc]).length=s.2.length+1:=by simp
    split
    ·have h2:=addR_len G f (s.1,s.2++[pc]) i.x.toNat;have h3:=addR_len G f (addR G f (s.1,s.2++[pc]) i.x.toNat) i.y.toNat
     simp only at h2;omega
    ·split
     ·have h2:=addR_len G f (s.1,s.2++[pc]) i.x.toNat
      simp only at h2;omega
     ·split
      ·have h2:=addR_len G f (s.1,s.2++[pc]) (pc+1)
       simp only at h2;omega
      ·simp only[List.length_append,List.length_cons,List.length_nil];omega
section
open Go.RowKit
theorem bytes_beq (a b:ByteArray):(a == b)=decide (a=b):=by
 rw[beq_toListBytes,ByteArray.toList_eq,ByteArray.toList_eq];obtain⟨⟨x⟩⟩:=a;obtain⟨⟨y⟩⟩:=b;rw[Bool.eq_iff_iff]
 simp
theorem findNow_str (x:ByteArray):∀(es:List MapEntry) (ks:List ByteArray) (j:Nat),es.map (·.key)=ks.map Value.string→
 Instr.findNow .string (.string x) es j=some ((ks.findIdx? (fun y=>decide (y=x))).map fun i=>(j+i,((es[i]?).map (·.val)).getD undef))
 | [],[],_,_=>by simp[Instr.findNow]
 | [],_::_,_,h=>by simp at h
 | _::_,[],_,h=>by simp at h
 | e::es,y::ks,j,h=>by
  simp only[List.map_cons,List.cons.injEq] at h;simp only[Instr.findNow,h.1,Instr.sameNow,bytes_beq];have ih:=findNow_str x es ks (j+1) h.2;by_cases hxy:x=y
  ·subst hxy;simp[List.findIdx?_cons]
  ·have e2:¬y=x:=fun e=>hxy e.symm;simp only[hxy,decide_false,ih,List.findIdx?_cons,e2,Bool.false_eq_true,if_false,Option.map_map]
   congr 2
   funext i
   simp only[Function.comp,List.getElem?_cons_succ]
   congr 1;omega
theorem str_klaw {P:Program}{k:TypeId}(hk:P.underlying k=some .string):KLaw P k Value.string where
 check:=fun e x w=>by
  unfold Instr.checkKey;simp[Sem.run_bind,run_underlying hk]
 find:=fun x es ks h w=>by
  have e:(ks.findIdx? (fun y=>decide (y=x)))=ks.findIdx? (@BEq.beq ByteArray instBEqOfDecidableEq · x):=rfl;unfold Instr.findKey;simp only[Sem.run_bind,run_underlying hk,Result.andThen_ok,findNow_str x es ks 0 h,e]
  simp
 same:=fun x=>by simp[Instr.sameBits,bytes_beq]
def keyB (l:List Nat):List Int:=l.flatMap (fun i=>[((i / 256 % 256:Nat):Int),((i % 256:Nat):Int)])
theorem keyB_len (l:List Nat):(keyB l).length=2*l.length:=by
 induction l with
 | nil=>rfl
 | cons x l ih=>simp only[keyB,List.flatMap_cons,List.length_append] at *;simp only[List.length_cons,List.length_nil];omega
theorem keyB_u8 (l:List Nat):∀b∈keyB l,0≤b∧b<256:=by
 intro b hb;obtain⟨i,_,hb⟩:=List.mem_flatMap.1 hb;simp only[List.mem_cons,List.not_mem_nil,or_false] at hb;omega
theorem keyB_inj:∀{l m:List Nat},(∀i∈l,i<65536)→(∀i∈m,i<65536)→keyB l=keyB m→l=m
 | [],[],_,_,_=>rfl
 | [],y::m,_,_,h=>by simp[keyB] at h
 | x::l,[],_,_,h=>by simp[keyB] at h
 | x::l,y::m,hl,hm,h=>by
  have e1:keyB (x::l)=((x / 256 % 256:Nat):Int)::((x % 256:Nat):Int)::keyB l:=by simp[keyB]
  have e2:keyB (y::m)=((y / 256 % 256:Nat):Int)::((y % 256:Nat):Int)::keyB m:=by simp[keyB]
  rw[e1,e2,List.cons.injEq,List.cons.injEq] at h;obtain⟨h1,h2,h3⟩:=h;have hx:=hl x si;have hy:=hm y si;have:x=y:=om;rw[this,keyB_inj (fun i hi=>hl i (by simp[hi])) (fun i hi=>hm i (by simp[hi])) h3]
theorem strOf_inj {xs ys:List Int}(hx:∀b∈xs,0≤b∧b<256)(hy:∀b∈ys,0≤b∧b<256)(h:strOfNums xs=strOfNums ys):xs=ys:=by
 have h1:=congrArg (fun b=>b.data.toList) h;simp only[strOfNums_data] at h1;induction xs generalizing ys with
 | nil=>
  cases ys with
  | nil=>rfl
  | cons y ys=>simp at h1
 | cons x xs ih=>
  cases ys with
  | nil=>simp at h1
  | cons y ys=>
   simp only[List.map_cons,List.cons.injEq] at h1;have hx1:=hx x si;have hy1:=hy y si;have e:=congrArg UInt8.toNat h1.1;simp only[UInt8.toNat_ofNat'] at e;have e2:x=y:=om;rw[e2,ih (fun b hb=>hx b (by simp[hb])) (fun b hb=>hy b (by simp[hb])) (by simp[strOfNums,h1.2]) h1.2]
def keyS (l:List Nat):ByteArray:=strOfNums (keyB l)
theorem keyS_inj {l m:List Nat}(hl:∀i∈l,i<65536)(hm:∀i∈m,i<65536)(h:keyS l=keyS m):l=m:=
 keyB_inj hl hm (strOf_inj (keyB_u8 l) (keyB_u8 m) h)
theorem keyS_find {L:List (List Nat)}(hL:∀l∈L,∀i∈l,i<65536){l:List Nat}(hl:∀i∈l,i<65536) :
 (L.zipIdx.map (fun p=>(keyS p.1,(p.2:Int)))).find? (fun p=>decide (p.1=keyS l))=if l∈L then some (keyS l,(L.idxOf l:Int)) else none:=by
 have gen:∀(L:List (List Nat)) (j:Nat),(∀l∈L,∀i∈l,i<65536)→((L.zipIdx j).map (fun p=>(keyS p.1,(p.2:Int)))).find? (fun p=>decide (p.1=keyS l))=if l∈L then some (keyS l,((j+L.idxOf l:Nat):Int)) else none:=by
  intro L;induction L with
  | nil=>intro j _;rfl
  | cons m L ih=>
   intro j hL;rw[List.zipIdx_cons,List.map_cons,List.find?_cons];by_cases hml:m=l
   ·subst hml;simp[List.idxOf_cons]
   ·have h1:¬keyS m=keyS l:=fun e=>hml (keyS_inj (hL m si) hl e);simp only[h1,decide_false];rw[ih (j+1) (fun l hl=>hL l (by simp[hl]))];have h2:(m == l)=false:=by rw[beq_eq_false_iff_ne];exact hml
    have h3:¬l=m:=fun e=>hml e.symm;simp only[List.mem_cons,h3,false_or,List.idxOf_cons,h2,cond_false]
    split
    ·congr 2;omega
    ·rfl
 have:=gen L 0 hL
 simpa using this
end
section
def befR (nx:Nat→Nat→Int)(s k t:Nat):List Nat:=((List.range k).filter (fun j=>decide (nx s j=(t:Int)))).map (fun _=>s)
def bef (nx:Nat→Nat→Int)(m i t:Nat):List Nat:=(List.range i).flatMap (fun s=>befR nx s m t)
def befK (nx:Nat→Nat→Int)(m i k t:Nat):List Nat:=bef nx m i t++befR nx i k t
section
variable {nx:Nat→Nat→Int} {m i k t:Nat}
theorem befK_zero:befK nx m i 0 t=bef nx m i t:=by simp[befK,befR]
theorem befK_all:befK nx m i m t=bef nx m (i+1) t:=by simp[befK,bef,List.range_succ]
theorem befK_yes (h:nx i k=(t:Int)):befK nx m i (k+1) t=befK nx m i k t++[i]:=by
 simp[befK,befR,List.range_succ,List.filter_append,h]
theorem befK_no (h:nx i k≠(t:Int)):befK nx m i (k+1) t=befK nx m i k t:=by
 simp[befK,befR,List.range_succ,List.filter_append,h]
theorem befR_mem {p s:Nat}:p∈befR nx s k t↔p=s∧StpI nx k s t:=by
 unfold befR StpI;simp only[List.mem_map,List.mem_filter,List.mem_range,decide_eq_true_eq];constructor
 ·rintro⟨j,⟨h1,h2⟩,rfl⟩;exact⟨rfl,j,h1,h2⟩
 ·rintro⟨rfl,j,h1,h2⟩;exact⟨j,⟨h1,h2⟩,rfl⟩
theorem bef_mem {n p:Nat}:p∈bef nx m n t↔p<n∧StpI nx m p t:=by
 unfold bef;simp only[List.mem_flatMap,List.mem_range,befR_mem];constructor
 ·rintro⟨s,h1,rfl,h2⟩;exact⟨h1,h2⟩
 ·rintro⟨h1,h2⟩;exact⟨p,h1,rfl,h2⟩
theorem befR_len:∀k,(befR nx i k t).length≤k:=fun k=>by
 unfold befR;rw[List.length_map];exact Nat.le_trans (List.length_filter_le _ _) si
theorem bef_len:∀i,(bef nx m i t).length≤i*m
 | 0=>by simp[bef]
 | i+1=>by
  have h:=bef_len i;have h2:(bef nx m (i+1) t).length=(bef nx m i t).length+(befR nx i m t).length:=by simp[bef,List.range_succ]
  have h3:(befR nx i m t).length≤m:=befR_len m;rw[h2,Nat.succ_mul];omega
theorem befK_len:(befK nx m i k t).length≤i*m+k:=by
 unfold befK;have h:=bef_len (nx:=nx) (m:=m) (t:=t) i;have h3:(befR nx i k t).length≤k:=befR_len k;rw[List.length_append];omega
def befL (nx:Nat→Nat→Int)(m i k n:Nat):List (List Nat):=(List.range n).map (befK nx m i k)
theorem befL_len {n:Nat}:(befL nx m i k n).length=n:=by simp[befL]
theorem befL_get {n:Nat}(h:t<(befL nx m i k n).length):(befL nx m i k n)[t]=befK nx m i k t:=by simp[befL]
theorem befL_start {n:Nat}:befL nx m 0 0 n=List.replicate n []:=by
 refine List.ext_getElem (by simp[befL]) (fun j h1 h2=>?_);simp[befL,befK,bef,befR]
theorem befL_row {n:Nat}:befL nx m i m n=befL nx m (i+1) 0 n:=by
 unfold befL;refine List.map_congr_left (fun t _=>?_);rw[befK_all,befK_zero]
theorem befL_no {n:Nat}(h:nx i k<0):befL nx m i (k+1) n=befL nx m i k n:=by
 unfold befL;refine List.map_congr_left (fun t _=>?_);exact befK_no om
theorem befL_yes {n:Nat}(h:nx i k=(t:Int)):(befL nx m i k n).set t (befK nx m i k t++[i])=befL nx m i (k+1) n:=by
 refine List.ext_getElem (by simp[befL]) (fun j h1 h2=>?_);rw[List.getElem_set];by_cases e:t=j
 ·subst e;rw[if_pos rfl,befL_get,befK_yes h]
 ·rw[if_neg e,befL_get,befL_get,befK_no om]
end
def Mk1 (op:List Bool)(x:Nat):Prop:=op.getD x false=true
theorem Mk1.set {op:List Bool}{s:Nat}(hs:s<op.length)(x:Nat):Mk1 (op.set s true) x↔Mk1 op x∨x=s:=by
 unfold Mk1;simp only[List.getD_eq_getElem?_getD,List.getElem?_set];by_cases e:s=x
 ·subst e;simp[hs]
 ·have e2:¬x=s:=fun h=>e h.symm;simp[e,e2]
def cntF (op:List Bool):Nat:=(op.filter (fun b=>!b)).length
theorem cntF_set:∀{op:List Bool} {s:Nat} (hs:s<op.length),op[s]=false→cntF (op.set s true)+1=cntF op
 | b::r,0,_,h=>by
  have h':b=false:=h;subst h';simp[cntF]
 | b::r,s+1,hs,h=>by
  have h1:=cntF_set (op:=r) (s:=s) (by simpa using hs) (by simpa using h);unfold cntF at h1 ⊢
  cases b<;>simp at h1 ⊢<;>omega
theorem cntF_mono:∀{op op':List Bool},op.length=op'.length→(∀x,Mk1 op x→Mk1 op' x)→cntF op'≤cntF op
 | [],[],_,_=>Nat.le_refl _
 | [],_::_,h,_=>by simp at h
 | _::_,[],h,_=>by simp at h
 | b::r,b'::r',hl,h=>by
  have h1:=cntF_mono (op:=r) (op':=r') (by simpa using hl) (fun x hx=>by
   have:=h (x+1) (by simpa[Mk1] using hx)
   simpa[Mk1] using this)
  have h0:=h 0;simp[Mk1] at h0;unfold cntF at h1 ⊢
  cases b<;>cases b'<;>simp at h0 h1 ⊢<;>omega
end
section
open Go.RowKit
def SetE (E:List Int)(l:List Sp):Prop:=l.length≤3∧∀s∈l,s.1∈E∧s.2+1∈E
def rimE:List Int:=[0,10,97,98,99,100,256,11]
theorem SetE.mono {E F:List Int}{l:List Sp}(h:SetE E l)(hs:∀x∈E,x∈F):SetE F l:=⟨h.1,fun s hs'=>⟨hs _ (h.2 s hs').1,hs _ (h.2 s hs').2⟩⟩
theorem SetE.nil (E:List Int):SetE E []:=⟨by simp,by simp⟩
theorem OwnS.lowerN {w:World}{base base' e size n c:Nat}{A:Option Addr}{xs:List Value}(h:OwnS w base e size A n c xs)(hb:base'≤base):OwnS w base' e size A n c xs:=by
 refine⟨h.1,?_⟩;rcases h.2 with h|⟨g,cap,cur,h1,h2,h3⟩
 ·exact Or.inl h
 ·exact Or.inr ⟨g,cap,cur,h1,Nat.le_trans hb h2,h3⟩
def HinOk (w0:World)(h:Hin):Prop:=h.wf∧SL w0 h.A h.c h.l∧SetE rimE h.l
theorem HinOk.plain (w0:World){op x y n:Int}(h:I64 op∧I64 x∧I64 y∧I64 n):HinOk w0 ⟨op,x,y,n,none,0,[]⟩:=⟨h,SL.nil _,SetE.nil _⟩
structure CdI (w0 base w:World)(T:Nat)(A:Option Addr)(c:Nat)(hs:List Hin):Prop where
 own:OwnS w base.heap.size T 5 A hs.length c (flatN hs)
 ok:∀h∈hs,HinOk w0 h
 ext:Ext base w
theorem CdI.nil {w0 base w:World}{T:Nat}(h:Ext base w):CdI w0 base w T none 0 []:=⟨OwnS.nil _ _ _ _,by simp,h⟩
theorem CdI.up {w0 base w w':World}{T:Nat}{A:Option Addr}{c:Nat}{hs:List Hin}(h:CdI w0 base w T A c hs)(x:Ext w w'):CdI w0 base w' T A c hs:=⟨OwnS.ext h.own x,h.ok,h.ext.trans x⟩
theorem CdI.low {w0 base base' w:World}{T:Nat}{A:Option Addr}{c:Nat}{hs:List Hin}(h:CdI w0 base' w T A c hs)(x:Ext base base'):CdI w0 base w T A c hs:=⟨OwnS.lowerN h.own x.size,h.ok,x.trans h.ext⟩
theorem CdI.len {w0 base w:World}{T:Nat}{A:Option Addr}{c:Nat}{hs:List Hin}(h:CdI w0 base w T A c hs):hs.length≤c∧c≤9223372036854775807:=OwnS.caps h.own
def RetCd (T:Nat)(w0:World)(N:Nat)(w:World)(e:Ending)(w':World):Prop:=
 ∃(A:Option Addr) (c:Nat) (hs:List Hin),e=.returned (.slice A hs.length c)∧hs.length+2≤N∧CdI w0 w w' T A c hs
theorem RetCd.up {T:Nat}{w0 w w1:World}{N M:Nat}{e:Ending}{w':World}(h:RetCd T w0 N w1 e w')(x:Ext w w1)(hN:N≤M):RetCd T w0 M w e w':=by
 obtain⟨A,c,hs,rfl,h1,h2⟩:=h;exact⟨A,c,hs,rfl,om,OwnS.lowerN h2.own x.size,h2.ok,x.trans h2.ext⟩
end
end Go.Proofs.YtmocoldobnimfaaGreat
