-- PRINTED by print.py (a twelfth state) out of the translation. Not trusted: Lean checks it.
import Derived.Test.YtodgaaggmlgenaaDoorPCw9
namespace Go.Proofs.YtodgaaggmlgenaaDoor.PC
open Go.RowKit Go.Proofs.YtodgaaggmlgenaaDoorW.PrintWords Go.Proofs.YtodgaaggmlgenaaDoorW.PrintLast Go.Proofs.YtodgaaggmlgenaaDoorW.PrintMore
attribute [local go_sem] max2_int min2_int max_two min_two max_three min_three max_four min_four   -- for this text's walks alone
set_option linter.unusedVariables false
set_option linter.unusedSimpArgs false

-- the contract of function 25 (maskwright/maskref4.number): written by hand
/-! ### maskref4_number: function 25 -/
def maskref4_number.f (a0 : Int) : Option ByteArray := if 0 ≤ a0 ∧ a0 < 1000000000 then some (itB a0) else none
theorem maskref4_number.calls (a0 : Int) (r : ByteArray) (w : World) (h : maskref4_number.f a0 = some r) :
    Calls Tryd.prog 25 #[.int .i64 a0] w fun e w' => e = .returned (.string r) ∧ Below w.heap.size w w' := by
  unfold maskref4_number.f at h
  by_cases e : 0 ≤ a0 ∧ a0 < 1000000000
  · rw [if_pos e] at h
    obtain rfl := Option.some.inj h
    exact num_ref a0 w e.1 e.2
  · rw [if_neg e] at h
    exact absurd h (by simp)

end Go.Proofs.YtodgaaggmlgenaaDoor.PC
