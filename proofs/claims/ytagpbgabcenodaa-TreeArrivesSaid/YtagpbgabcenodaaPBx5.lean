-- PRINTED by print.py (a twelfth state) out of the translation. Not trusted: Lean checks it.
import Derived.Test.YtagpbgabcenodaaPBx0
import Derived.Test.YtagpbgabcenodaaPBx2
import Derived.Test.YtagpbgabcenodaaPBx4
namespace Go.Proofs.Ytagpbgabcenodaa.PB
open Go.RowKit Go.Proofs.YtagpbgabcenodaaW.PrintWords Go.Proofs.YtagpbgabcenodaaW.PrintLast Go.Proofs.YtagpbgabcenodaaW.PrintMore
attribute [local go_sem] max2_int min2_int max_two min_two max_three min_three max_four min_four   -- for this text's walks alone
set_option linter.unusedVariables false
set_option linter.unusedSimpArgs false

-- the contract of function 6 (maskwright/masklaw4.trees): written by hand
/-! ### masklaw4_trees: function 6 -/
def masklaw4_trees.f : Option Bool := some true
abbrev trw : List (S45) := [⟨3, 5⟩, ⟨4, 9⟩]
theorem tr_depth : tree_Depth.f 20 0 [-1, 0] [1, 1] 0 = some 2 := by decide +kernel
theorem tr_skew : tree_Skew.f 20 trw = some 6 := by decide +kernel
set_option maxHeartbeats 1000000 in
set_option maxRecDepth 100000 in
theorem masklaw4_trees.calls (r : Bool) (w : World) (h : masklaw4_trees.f = some r) :
    Calls Try.prog 6 #[] w fun e w' => e = .returned (.bool r) ∧ Below w.heap.size w w' := by
  obtain rfl := Option.some.inj h
  clear h
  go_enter Try.func6, Try.ntmps6
  go_wp2_with fail
  refine (tree_Depth.calls 20 0 (some ⟨w.heap.size, 0, none⟩) 2 [-1, 0] (some ⟨w.heap.size + 1, 0, none⟩) 2 [1, 1] 0 2 _ ?_ (by simp) ?_ (by simp) tr_depth).mono ?_
  · exact Hnd.rowI [-1, 0] (blk_alloc (blk_alloc (blk_new w _) _) _) rfl (by simp)
  · exact Hnd.rowI [1, 1] (blk_alloc (Hnd.blk_new1 w _ _) _) rfl (by simp)
  rintro e w1 ⟨rfl, hb1⟩
  have HB : Below w.heap.size w w1 := below_step (below_alloc (below_alloc (below_alloc (Below.refl _ _) _) _) _) hb1
  clear hb1
  go_wp2_with fail
  refine (tree_Skew.calls 20 (some ⟨w1.heap.size, 0, none⟩) 2 trw 6 _ ?_ (by simp) tr_skew).mono ?_
  · exact Hnd.rowC (d := k45) (xs := trw) (blk_new w1 _) ⟨rfl, fun j p hj => by
      match j, hj with
      | 0, hj => obtain rfl := Option.some.inj hj; exact k45_mk _ _
      | 1, hj => obtain rfl := Option.some.inj hj; exact k45_mk _ _⟩ (by decide)
  rintro e w2 ⟨rfl, hb2⟩
  replace HB := below_step (below_alloc HB _) hb2
  clear hb2
  go_wp2
  go_ret
  exact ⟨rfl, HB⟩

end Go.Proofs.Ytagpbgabcenodaa.PB
