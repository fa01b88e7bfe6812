/- Texts of this proof: I9. -/
import Derived.Test.YtmgpefenkilffaaGreatSW39
import Derived.Test.YtmgpefenkilffaaGreatSW49
set_option linter.all false
set_option maxRecDepth 100000
namespace Go.Proofs.YtmgpefenkilffaaGreat
section
open Go.RowKit
def hdL (x:Int):Hd:=⟨1,[(x,x)],0,0,0,0,false⟩
def tmL (x:Int):Tm:=.k0 (hdL x)
def tmP:Tm:=.k1 ⟨4,[],1,-1,0,0,false⟩ (tmL 97)
def tmK:Tm:=.k2 ⟨2,[],0,0,0,0,false⟩ (tmL 97) (tmL 98)
def tmA:Tm:=.k2 ⟨3,[],0,0,0,0,false⟩ (tmL 97) tmK
theorem sl_ab {w:World}{sb:Nat}{x:Int}(hx:0<=x/\x<=255)(hb:Blk w sb 81 #[.int .i64 x,.int .i64 x]):SL w (some ⟨sb,0,none⟩) 1 [(x,x)]:=
 one_slS (x:=(x,x)) hb (by simp only;omega)
theorem ndOk_L {sb:Nat}{x:Int}(hx:x=97\/x=98):NdOk 3 (ndL sb x):=by
 refine⟨by simp[ndL],by simp[ndL],by simp[ndL],by simp[ndL],by simp[ndL],by simp[ndL],by simp[ndL],by simp[ndL],by simp[ndL],⟨by simp[ndL],fun s hs=>?_⟩⟩;simp only[ndL,List.mem_singleton] at hs;subst hs;rcases hx with rfl|rfl<;>simp
theorem treeL {w:World}{sb d:Nat}{x:Int}(hx:x=97\/x=98)(hb:Blk w sb 81 #[.int .i64 x,.int .i64 x]):TreeG 3 (fun _=>True) w (d+1) (ndL sb x).val (tmL x):=
 TreeG.mk (ndL sb x) [] (ndOk_L hx) (sl_ab om hb) (Nat.le_refl _) (Nat.zero_le _) (fun h=>absurd rfl h) rfl (fun i hi=>by simp[ndL] at hi) (fun _ _ _=>trivial) (fun _ _ _=>trivial)
theorem gdL {x:Int}(hx:x=97\/x=98):GdT 0 0 (tmL x):=by
 refine .mk _ ⟨rfl,.inr (.inl ⟨rfl,?_,rfl,rfl,rfl,rfl,rfl⟩)⟩ (fun t ht=>by simp[tmL,Tm.kids] at ht);rcases hx with rfl|rfl<;>simp[tmL,Tm.hd,hdL,sets8]
theorem gdP:GdT 0 0 tmP:=by
 refine .mk _ ⟨rfl,.inr (.inr (.inr (.inl ⟨rfl,rfl,?_,.inl rfl,rfl,tmL 97,rfl,by decide⟩)))⟩ (fun t ht=>?_)
 ·simp[tmP,Tm.hd]
 ·simp only[tmP,Tm.kids,List.mem_singleton] at ht;subst ht;exact gdL (.inl rfl)
theorem gdK:GdT 0 0 tmK:=by
 refine .mk _ ⟨rfl,.inr (.inr (.inl ⟨.inl rfl,rfl,rfl,rfl,rfl,rfl,by simp[tmK,Tm.kids],by simp[tmK,Tm.kids]⟩))⟩ (fun t ht=>?_);simp only[tmK,Tm.kids,List.mem_cons,List.not_mem_nil,or_false] at ht;rcases ht with rfl|rfl
 ·exact gdL (.inl rfl)
 ·exact gdL (.inr rfl)
theorem gdA:GdT 0 0 tmA:=by
 refine .mk _ ⟨rfl,.inr (.inr (.inl ⟨.inr rfl,rfl,rfl,rfl,rfl,rfl,by simp[tmA,Tm.kids],by simp[tmA,Tm.kids]⟩))⟩ (fun t ht=>?_);simp only[tmA,Tm.kids,List.mem_cons,List.not_mem_nil,or_false] at ht;rcases ht with rfl|rfl
 ·exact gdL (.inl rfl)
 ·exact gdK
theorem codeP_eq:codeT tmP []++[⟨0,0,0,0,[]⟩]=gPlus:=by kernel_rfl
theorem codeA_eq:codeT tmA []++[⟨0,0,0,0,[]⟩]=gAlt:=by kernel_rfl
theorem cmpP:CmpP:=by
 intro w kb sb hk hs;have hl:TreeG 3 (fun _=>True) w 1 (ndL sb 97).val (tmL 97):=treeL (.inl rfl) hs;have ht:TreeG 3 (fun _=>True) w 2 (Nd.val ⟨4,none,0,[],some ⟨kb,0,none⟩,1,[(ndL sb 97).val],1,-1,0,0,false⟩) tmP:=
  TreeG.mk ⟨4,none,0,[],some ⟨kb,0,none⟩,1,[(ndL sb 97).val],1,-1,0,0,false⟩ [tmL 97] (by constructor<;>simp[SetOk]) (SL.nil _) (Nat.le_refl _) (by unfold maxLen;simp) (by simpa[Nd.cells] using blk_cells hk) rfl (fun i hi hj=>by
   obtain rfl:i=0:=by simp at hi;omega
   exact hl) (fun _ _ _=>trivial) (fun _ _ _=>trivial)
 have h:=hcompile_G 0 2 (fun _=>True) om w ⟨4,none,0,[],some ⟨kb,0,none⟩,1,[(ndL sb 97).val],1,-1,0,0,false⟩ 0 false tmP ht gdP de de om;refine h.mono ?_;rintro e w' ⟨A,c,hs,rfl,h1,h2,h3⟩;exact⟨A,c,hs,rfl,h3.trans codeP_eq,h1.pl,h2⟩
theorem cmpA:CmpA:=by
 intro w kb kc sb sc u v hk hkc hs hsc;have hl:TreeG 3 (fun _=>True) w 2 (ndL sb 97).val (tmL 97):=treeL (.inl rfl) hs;have hl1:TreeG 3 (fun _=>True) w 1 (ndL sb 97).val (tmL 97):=treeL (.inl rfl) hs;have hl2:TreeG 3 (fun _=>True) w 1 (ndL sc 98).val (tmL 98):=treeL (.inr rfl) hsc;have htk:TreeG 3 (fun _=>True) w 2 (ndK kc (ndL sb 97).val (ndL sc 98).val).val tmK:=
  TreeG.mk (ndK kc (ndL sb 97).val (ndL sc 98).val) [tmL 97,tmL 98] (by constructor<;>simp[SetOk,ndK]) (SL.nil _) (Nat.le_refl _) (by unfold maxLen;simp[ndK]) (by simpa[Nd.cells,ndK] using blk_cells hkc) rfl (fun i hi hj=>by
   have:i=0\/i=1:=by simp[ndK] at hi;omega
   rcases this with rfl|rfl
   ·exact hl1
   ·exact hl2) (fun _ _ _=>trivial) (fun _ _ _=>trivial)
 have ht:TreeG 3 (fun _=>True) w 3 (Nd.val ⟨3,none,0,[],some ⟨kb,0,none⟩,2,[(ndL sb 97).val,(ndK kc u v).val],0,0,0,0,false⟩) tmA:=
  TreeG.mk ⟨3,none,0,[],some ⟨kb,0,none⟩,2,[(ndL sb 97).val,(ndK kc u v).val],0,0,0,0,false⟩ [tmL 97,tmK] (by constructor<;>simp[SetOk]) (SL.nil _) (Nat.le_refl _) (by unfold maxLen;simp) (by simpa[Nd.cells] using blk_cells hk) rfl (fun i hi hj=>by
   have:i=0\/i=1:=by simp at hi;omega
   rcases this with rfl|rfl
   ·exact hl
   ·exact htk) (fun _ _ _=>trivial) (fun _ _ _=>trivial)
 have h:=hcompile_G 0 3 (fun _=>True) om w ⟨3,none,0,[],some ⟨kb,0,none⟩,2,[(ndL sb 97).val,(ndK kc u v).val],0,0,0,0,false⟩ 0 false tmA ht gdA de de om;refine h.mono ?_;rintro e w' ⟨A,c,hs,rfl,h1,h2,h3⟩;exact⟨A,c,hs,rfl,h3.trans codeA_eq,h1.pl,h2⟩
end
end Go.Proofs.YtmgpefenkilffaaGreat
