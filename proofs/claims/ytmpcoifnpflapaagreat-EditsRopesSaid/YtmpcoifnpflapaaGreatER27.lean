/- Texts of this proof: K10 K11. -/
import Derived.Test.YtmpcoifnpflapaaGreatER26
set_option linter.all false
namespace Go.Proofs.YtmpcoifnpflapaaGreat
section
open Go.RowKit
attribute [local go_sem ↓] Go.wp_at_zero Go.wp_at_succ
theorem progE_badH {runes:Bool}{caps:Int}{hs:List Hin}(h:¬8192<hs.length)(h2:¬(hs.length=0\/caps<0\/9<caps)){k:Nat}(hk:k<hs.length)(h3:¬InsOk runes caps hs.length hs[k].ins):progE runes caps (insL hs)=1:=by
 have hil:=insL_len hs;refine progE_bad (k:=k) om om om ?_;simp only[insL_getElem,insL_len];exact h3
theorem progE_endH {runes:Bool}{caps:Int}{hs:List Hin}(h:¬8192<hs.length)(h2:¬(hs.length=0\/caps<0\/9<caps))(h3:∀k (hk:k<hs.length),InsOk runes caps hs.length hs[k].ins)(hl:hs.length-1<hs.length) :
 progE runes caps (insL hs)=if hs[hs.length-1].op=0\/hs[hs.length-1].op=2\/hs[hs.length-1].op=3 then 0 else 1:=by
 have hil:=insL_len hs;have h1:=progE_end (runes:=runes) (caps:=caps) (G:=insL hs) om om (fun k hk=>by
  simp only[insL_getElem,insL_len];exact h3 k om) om
 rw[h1];simp only[insL_getElem,insL_len,Hin.ins]
theorem chkE_prog {runes:Bool}{caps:Int}{G:List Ins}(h:progE runes caps G≠0):chkE runes caps G=progE runes caps G:=by unfold chkE;rw[if_pos h]
theorem chkE_kind {runes:Bool}{caps:Int}{hs:List Hin}(h:progE runes caps (insL hs)=0){k:Nat}(hk:k<hs.length)(h5:hs[k].op=5):chkE runes caps (insL hs)=10:=by
 unfold chkE;rw[if_neg (fun h2=>h2 h),if_pos ⟨hs[k].ins,List.mem_map_of_mem (List.getElem_mem hk),h5⟩]
theorem chkE_ok {runes:Bool}{caps:Int}{hs:List Hin}(h:progE runes caps (insL hs)=0)(h5:∀k (hk:k<hs.length),hs[k].op≠5):chkE runes caps (insL hs)=0:=by
 unfold chkE;rw[if_neg (fun h2=>h2 h),if_neg];rintro⟨i,hi,h⟩;obtain⟨z,hz,rfl⟩:=List.mem_map.1 hi;obtain⟨k,hk,rfl⟩:=List.mem_iff_getElem.1 hz;exact h5 k hk h
end
end Go.Proofs.YtmpcoifnpflapaaGreat
