/- Texts of this proof: G11 G13. -/
import Derived.Test.YtmocoldobnimfaaGreatRP21
import Derived.Test.YtmocoldobnimfaaGreatRP22
set_option linter.all false
set_option maxHeartbeats 1000000
namespace Go.Proofs.YtmocoldobnimfaaGreat
section
open Go.RowKit
def RetCl (l:List Sp)(w:World)(e:Ending)(w':World):Prop:=∃(A':Option Addr) (c':Nat),e=.returned (.slice A' l.length c')∧OwnP w' w.heap.size A' c' l∧Ext w w'
theorem cloneS_any (A:Option Addr)(c:Nat)(l:List Sp)(w:World)(hl:SL w A c l)(hb:l.length≤1000000) :
 Calls Tryz.prog 183 #[.slice A l.length c] w (RetCl l w):=by
 obtain⟨iS,jS0,jS1,jS2,jS3⟩:=info_parts infoS
 cases A with
 | none=>
  have hl0:l=[]:=by
   rcases l with _|⟨x,l⟩
   ·rfl
   ·obtain⟨b,o,h,_⟩:=hl.at_ si;cases h
  subst hl0;have hn:=fun wx=>Lib.run_eql_slice_nil (P:=Tryz.prog) wx 23 38 none 0 c 0 0 Tryz.underlying23;go_enter Tryz.func183,Tryz.ntmps183
  go_wp2
  go_ret
  exact⟨none,0,rfl,OwnP.nil _ _,Ext.rfl' _⟩
 | some ad=>
  have hn:=fun wx=>Lib.run_eql_slice_nil (P:=Tryz.prog) wx 23 38 (some ad) l.length c 0 0 Tryz.underlying23;simp only[Option.isNone_some] at hn;have hm:=hl.len;have hown:OwnS (w.alloc (.cells #[] 38)) w.heap.size 38 2 (some ⟨w.heap.size,0,none⟩) 0 0 []:=
   OwnS.of_blk (Blk.new w 38 #[]) (Nat.le_refl _) rfl (Nat.le_refl _) (Nat.zero_le _)
  have hcl:=(hl.ext (Ext.alloc w (.cells #[] 38))).cells;have h1:=flatS_one l;have HFL:=lh (flatS_len l);have H63:=lh (show 0+l.length≤maxLen by unfold maxLen;omega);have H8:=lh (show(0+l.length)*16≤140737488355328 by omega);clear hb;go_enter Tryz.func183,Tryz.ntmps183
  go_wp2_with ((at_builtin;refine wpList_app _ rfl _ _ _ rfl w.heap.size 38 iS _ 2 16 Tryz.underlying23 jS0 jS1 jS2 jS3 rfl om _ 0 0 [] rfl hown _ l.length c (flatS l) rfl HFL.out hcl h1 H63.out H8.out si ?_;intro A' c' w' hown' hg hat))
  go_ret
  simp only[List.nil_append,Nat.zero_add] at hown';have hE:Ext w w':=(Ext.alloc w (.cells #[] 38)).grown hg si;exact⟨A',c',by simp,hown',hE⟩
theorem addS_good {l:List Sp}{s:Sp}(h:∀t∈l,goodS t)(hs:goodS s):∀t∈addS l s,goodS t:=by
 rcases List.eq_nil_or_concat l with rfl|⟨l0,u,rfl⟩
 ·rw[addS_nil];simpa using hs
 ·rw[List.concat_eq_append] at *;rw[addS_snoc];intro t ht
  split at ht
  ·rcases List.mem_append.1 ht with ht|ht
   ·exact h t (by simp[ht])
   ·obtain rfl:=List.mem_singleton.1 ht;have:=h u si;unfold goodS at *
    simp only
    omega
  ·rcases List.mem_append.1 ht with ht|ht
   ·exact h t ht
   ·obtain rfl:=List.mem_singleton.1 ht;exact hs
theorem addAll_good:∀{b l:List Sp},(∀t∈l,goodS t)→(∀t∈b,goodS t)→∀t∈b.foldl addS l,goodS t
 | [],_,h,_=>h
 | s::b,_,h,hb=>addAll_good (b:=b) (addS_good h (hb s si)) (fun t ht=>hb t (by simp[ht]))
theorem addAll_len:∀(b l:List Sp),(b.foldl addS l).length≤l.length+b.length
 | [],l=>by simp
 | s::b,l=>by
  have h1:=addAll_len b (addS l s);have h2:=(addS_len l s).2;rw[List.foldl_cons,List.length_cons];omega
end
section
open Go.RowKit
theorem flat_part {ls:List Hs}{i k:Nat}:(((ls.take i).map (·.l)).flatten++((ls[i]?.map (·.l)).getD []).take k).length≤((ls.map (·.l)).flatten).length:=by
 rcases Nat.lt_or_ge i ls.length with hi|hi
 ·rw[List.getElem?_eq_getElem hi];have e:ls=ls.take i++ls[i]::ls.drop (i+1):=by
   conv=>lhs;rw[←List.take_append_drop i ls,List.drop_eq_getElem_cons hi]
  have e2:((ls.map (·.l)).flatten).length=((ls.take i).map (·.l)).flatten.length+(ls[i].l.length+((ls.drop (i+1)).map (·.l)).flatten.length):=by
   conv=>lhs;rw[e]
   rw[List.map_append,List.flatten_append,List.length_append,List.map_cons,List.flatten_cons,List.length_append]
  rw[List.length_append,e2];simp only[Option.map_some,Option.getD_some,List.length_take];omega
 ·rw[List.getElem?_eq_none hi,List.take_of_length_le hi]
  simp
theorem okL_canon {l:List Sp}(h:OkL l):Canon l∧∀s∈l,goodS s:=by
 have hg:∀i (hi:i<l.length),goodS l[i]:=fun i hi=>(h i hi hi).1;have hadj:∀i (hi:i+1<l.length),l[i].2+2≤l[i+1].1:=fun i hi=>by
  have:=(h (i+1) hi hi).2 om;simp only[Nat.add_sub_cancel] at this
  rwa [List.getD_eq_getElem?_getD,List.getElem?_eq_getElem om] at this
 have hall:∀d i (hi:i+d+1<l.length),l[i].2+2≤(l[i+d+1]'hi).1:=by
  intro d;induction d with
  | zero=>exact fun i hi=>hadj i hi
  | succ d ih=>
   intro i hi;have h1:=ih i om;have h2:=hg (i+d+1) om;have h3:=hadj (i+d+1) om;unfold goodS at h2;have e:i+(d+1)+1=i+d+1+1:=om;simp only[e];omega
 refine⟨⟨fun s hs=>?_,List.pairwise_iff_getElem.2 (fun i j hi hj hij=>?_)⟩,fun s hs=>?_⟩
 ·obtain⟨i,hi,rfl⟩:=List.getElem_of_mem hs;exact(hg i hi).2.1
 ·obtain⟨d,rfl⟩:∃d,j=i+d+1:=⟨j-i-1,om⟩;exact hall d i hj
 ·obtain⟨i,hi,rfl⟩:=List.getElem_of_mem hs;exact hg i hi
end
end Go.Proofs.YtmocoldobnimfaaGreat
