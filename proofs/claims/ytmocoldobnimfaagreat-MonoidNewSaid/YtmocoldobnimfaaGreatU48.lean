/- Texts of this proof: DE. -/
import Derived.Test.YtmocoldobnimfaaGreatU41
import Derived.Test.YtmocoldobnimfaaGreatU47
set_option linter.all false
namespace Go.Proofs.YtmocoldobnimfaaGreat
section
open Go.RowKit
def abNd (gs:Nat):Nd:=⟨1,some ⟨gs,0,none⟩,1,[(97,98)],none,0,[],0,0,0,0,false⟩
def aNd (gs:Nat):Nd:=⟨1,some ⟨gs,0,none⟩,1,[(97,97)],none,0,[],0,0,0,0,false⟩
def repNd (g gs:Nat)(mn mx:Int):Nd:=⟨4,none,0,[],some ⟨g,0,none⟩,1,[(abNd gs).val],mn,mx,0,0,false⟩
def manyNd (g g1 g2 gs ga:Nat)(N:Int):Nd:=⟨2,none,0,[],some ⟨g,0,none⟩,3,[(repNd g1 gs 0 (-1)).val,(aNd ga).val,(repNd g2 gs N N).val],0,0,0,0,false⟩
theorem set_nd {w:World}{gs:Nat}{x y:Int}(hb:Blk w gs 38 #[.int .i64 x,.int .i64 y])(hx:I64 x)(hy:I64 y)(hs:SetOk [(x,y)]):TreeAt 5 (fun _=>True) w 1 (Nd.val ⟨1,some ⟨gs,0,none⟩,1,[(x,y)],none,0,[],0,0,0,0,false⟩):=
 .mk _ ⟨by simp,by simp,by simp,by simp,by simp,by simp,by simp,by simp,by simp,hs⟩ (one_sl hb hx hy) si (by simp[maxLen]) (fun h=>by simp at h) si si si
theorem rep_nd {w:World}{g gs:Nat}{mn mx:Int}(hb:Blk w g 26 (abNd gs).cs.toArray)(hs:Blk w gs 38 #[.int .i64 97,.int .i64 98])(h1:0≤mn∧mn≤5)(h2 : -1≤mx∧mx≤5)(h3:mx = -1→mn+1≤5):TreeAt 5 (fun _=>True) w 2 (repNd g gs mn mx).val:=by
 have ht:TreeAt 5 (fun _=>True) w 1 (abNd gs).val:=set_nd hs (by unfold I64;omega) (by unfold I64;omega) (by simp[SetOk]);refine .mk (repNd g gs mn mx) ⟨by simp[repNd],by simp[repNd],by simp[repNd],by simp[repNd],by simp[repNd];omega,by simp[repNd];omega,by simp only[repNd];exact h3,by simp[repNd],by simp[repNd],by simp[repNd,SetOk]⟩ (SL.nil _) (by simp[repNd]) (by simp[repNd,maxLen]) ?_ (fun u hu=>?_) (fun _ _ _=>trivial) (fun _ _ _=>trivial)
 ·simp only[repNd,List.flatMap_cons,List.flatMap_nil,List.append_nil,Nd.cells];exact blk_cells hb
 ·simp only[repNd,List.mem_singleton] at hu;rw[hu];exact ht
theorem many_nd {w:World}{g g1 g2 gs ga:Nat}{N:Int}(hb:Blk w g 26 ((repNd g1 gs 0 (-1)).cs++(aNd ga).cs++(repNd g2 gs N N).cs).toArray)(h1:Blk w g1 26 (abNd gs).cs.toArray)(h2:Blk w g2 26 (abNd gs).cs.toArray)(hs:Blk w gs 38 #[.int .i64 97,.int .i64 98])(ha:Blk w ga 38 #[.int .i64 97,.int .i64 97])(hN:1≤N∧N≤5) :
 TreeAt 5 (fun _=>True) w 3 (manyNd g g1 g2 gs ga N).val:=by
 have t1:=rep_nd (mn:=0) (mx:=-1) h1 hs om om om;have t2:=rep_nd (mn:=N) (mx:=N) h2 hs om om om;have t3:TreeAt 5 (fun _=>True) w 1 (aNd ga).val:=set_nd ha (by unfold I64;omega) (by unfold I64;omega) (by simp[SetOk]);refine .mk (manyNd g g1 g2 gs ga N) ⟨by simp[manyNd],by simp[manyNd],by simp[manyNd],by simp[manyNd],by simp[manyNd],by simp[manyNd],by simp[manyNd],by simp[manyNd],by simp[manyNd],by simp[manyNd,SetOk]⟩ (SL.nil _) (by simp[manyNd]) (by simp[manyNd,maxLen]) ?_ (fun u hu=>?_) (fun _ _ _=>trivial) (fun _ _ _=>trivial)
 ·simp only[manyNd,List.flatMap_cons,List.flatMap_nil,List.append_nil,Nd.cells,←List.append_assoc];exact blk_cells hb
 ·simp only[manyNd,List.mem_cons,List.not_mem_nil,or_false] at hu;rcases hu with rfl|rfl|rfl
  ·exact t1
  ·exact t3.mono om
  ·exact t2
theorem many_made (w:World)(gs:Nat)(N:Int)(hs:Blk w gs 38 #[.int .i64 97,.int .i64 98])(hN:1≤N∧N≤5) :
 TreeAt 5 (fun _=>True) ((((w.alloc (.cells (abNd gs).cs.toArray 26)).alloc (.cells #[.int .i64 97,.int .i64 97] 38)).alloc (.cells (abNd gs).cs.toArray 26)).alloc (.cells ((repNd w.heap.size gs 0 (-1)).cs++(aNd (w.heap.size+1)).cs++(repNd (w.heap.size+2) gs N N).cs).toArray 26)) 3 (manyNd (w.heap.size+3) w.heap.size (w.heap.size+2) gs (w.heap.size+1) N).val:=by
 have b1:=Blk.new w 26 (abNd gs).cs.toArray;have b2:=Blk.new (w.alloc (.cells (abNd gs).cs.toArray 26)) 38 #[.int .i64 97,.int .i64 97];have b3:=Blk.new ((w.alloc (.cells (abNd gs).cs.toArray 26)).alloc (.cells #[.int .i64 97,.int .i64 97] 38)) 26 (abNd gs).cs.toArray;have b4:=Blk.new (((w.alloc (.cells (abNd gs).cs.toArray 26)).alloc (.cells #[.int .i64 97,.int .i64 97] 38)).alloc (.cells (abNd gs).cs.toArray 26)) 26 ((repNd w.heap.size gs 0 (-1)).cs++(aNd (w.heap.size+1)).cs++(repNd (w.heap.size+2) gs N N).cs).toArray;simp only[World.size_alloc] at b2 b3 b4;exact many_nd b4 (((b1.alloc _).alloc _).alloc _) (b3.alloc _) ((((hs.alloc _).alloc _).alloc _).alloc _) ((b2.alloc _).alloc _) hN
theorem many_ext (w:World)(o1 o2 o3 o4:Obj):Ext w ((((w.alloc o1).alloc o2).alloc o3).alloc o4):=(((Ext.alloc _ _).trans (Ext.alloc _ _)).trans (Ext.alloc _ _)).trans (Ext.alloc _ _)
end
end Go.Proofs.YtmocoldobnimfaaGreat
