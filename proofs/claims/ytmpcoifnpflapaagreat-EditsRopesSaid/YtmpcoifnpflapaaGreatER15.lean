/- Texts of this proof: K3 K4. -/
import Derived.Test.YtmpcoifnpflapaaGreatER13
set_option linter.all false
namespace Go.Proofs.YtmpcoifnpflapaaGreat
section
open Go.RowKit
attribute [local go_sem ↓] Go.wp_at_zero Go.wp_at_succ
def nxUp (G:List Ins)(c:Int)(l:List Nat)(i:Nat):List Nat:=((l.take i).filter (symAt G c)).map (·+1)
theorem nxUp_yes {G:List Ins}{c:Int}{l:List Nat}{i:Nat}(h:i<l.length)(hs:symAt G c l[i]=true):nxUp G c l (i+1)=nxUp G c l i++[l[i]+1]:=by
 unfold nxUp;rw[List.take_succ_eq_append_getElem h,List.filter_append,List.map_append];simp[hs]
theorem nxUp_no {G:List Ins}{c:Int}{l:List Nat}{i:Nat}(h:i<l.length)(hs:symAt G c l[i]=false):nxUp G c l (i+1)=nxUp G c l i:=by
 unfold nxUp;rw[List.take_succ_eq_append_getElem h,List.filter_append,List.map_append];simp[hs]
theorem nxUp_all (G:List Ins)(c:Int)(l:List Nat):nextG G l c=stateG G (nxUp G c l l.length):=by
 unfold nextG nxUp;rw[List.take_length]
theorem nxUp_len (G:List Ins)(c:Int)(l:List Nat)(i:Nat):(nxUp G c l i).length<=i:=by
 unfold nxUp;rw[List.length_map];exact Nat.le_trans (List.length_filter_le _ _) (by rw[List.length_take];omega)
theorem symAt_get {hs:List Hin}{p:Nat}(h:p<hs.length)(c:Int):symAt (insL hs) c p=(decide (hs[p].op=1)&&has hs[p].l c):=by
 unfold symAt;rw[insL_get h];rfl
theorem nxUp_lt {hs:List Hin}{runes:Bool}{caps:Int}(hG:GOk runes caps (insL hs)){c:Int}{l:List Nat}(hl:∀p∈l,p<hs.length)(i:Nat):∀q∈nxUp (insL hs) c l i,q<hs.length:=by
 intro q hq;unfold nxUp at hq;obtain⟨p,hp,rfl⟩:=List.mem_map.1 hq;obtain⟨hp1,hp2⟩:=List.mem_filter.1 hp;have hpl:=hl p (List.mem_of_mem_take hp1);rw[symAt_get hpl] at hp2;simp only[Bool.and_eq_true,decide_eq_true_eq] at hp2;have:=hG.next (k:=p) (by rw[insL_len];exact hpl) (by rw[insL_getElem];exact .inl hp2.1)
 rwa [insL_len] at this
end
end Go.Proofs.YtmpcoifnpflapaaGreat
