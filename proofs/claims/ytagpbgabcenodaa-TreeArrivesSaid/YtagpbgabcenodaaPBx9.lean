-- PRINTED by print.py (a twelfth state) out of the translation. Not trusted: Lean checks it.
import Derived.Test.YtagpbgabcenodaaPBx0
namespace Go.Proofs.Ytagpbgabcenodaa.PB
open Go.RowKit Go.Proofs.YtagpbgabcenodaaW.PrintWords Go.Proofs.YtagpbgabcenodaaW.PrintLast Go.Proofs.YtagpbgabcenodaaW.PrintMore
attribute [local go_sem] max2_int min2_int max_two min_two max_three min_three max_four min_four   -- for this text's walks alone
set_option linter.unusedVariables false
set_option linter.unusedSimpArgs false

-- the contract of function 52 (maskwright/netlist.Mask): written by hand
/-! ### netlist_Mask: function 52 -/
def netlist_Mask.f (a0 : Int) : Option Int := some (if a0 = 0 then 1 else if a0 = 1 then 3 else if a0 = 2 then 15 else if a0 = 3 then 255 else if a0 = 4 then 65535 else if a0 = 5 then 4294967295 else if a0 = 6 then 18446744073709551615 else 0)
set_option maxHeartbeats 2000000 in
set_option maxRecDepth 100000 in
theorem netlist_Mask.calls (a0 : Int) (r : Int) (w : World) (h : netlist_Mask.f a0 = some r) :
    Calls Try.prog 52 #[.int .i64 a0] w fun e w' => e = .returned (.int .u64 r) ∧ Drawn0 w w' := by
  obtain rfl := Option.some.inj h
  clear h
  by_cases h1 : a0 < 0
  · have HF := Aside0.mk (show (if a0 = 0 then (1 : Int) else if a0 = 1 then 3 else if a0 = 2 then 15 else if a0 = 3 then 255 else if a0 = 4 then 65535 else if a0 = 5 then 4294967295 else if a0 = 6 then 18446744073709551615 else 0) = 0 by
      rw [if_neg (by omega), if_neg (by omega), if_neg (by omega), if_neg (by omega), if_neg (by omega), if_neg (by omega), if_neg (by omega)])
    have d1 : decide (a0 < 0) = true := decide_eq_true h1
    generalize (if a0 = 0 then (1 : Int) else if a0 = 1 then 3 else if a0 = 2 then 15 else if a0 = 3 then 255 else if a0 = 4 then 65535 else if a0 = 5 then 4294967295 else if a0 = 6 then 18446744073709551615 else 0) = q at HF ⊢
    clear h1
    go_enter Try.func52, Try.ntmps52
    go_wp2
    go_ret
    exact ⟨by rw [HF.out]; rfl, Drawn0.refl _⟩
  by_cases h2 : 6 < a0
  · have HF := Aside0.mk (show (if a0 = 0 then (1 : Int) else if a0 = 1 then 3 else if a0 = 2 then 15 else if a0 = 3 then 255 else if a0 = 4 then 65535 else if a0 = 5 then 4294967295 else if a0 = 6 then 18446744073709551615 else 0) = 0 by
      rw [if_neg (by omega), if_neg (by omega), if_neg (by omega), if_neg (by omega), if_neg (by omega), if_neg (by omega), if_neg (by omega)])
    have d1 : decide (a0 < 0) = false := decide_eq_false h1
    have d2 : decide (6 < a0) = true := decide_eq_true h2
    generalize (if a0 = 0 then (1 : Int) else if a0 = 1 then 3 else if a0 = 2 then 15 else if a0 = 3 then 255 else if a0 = 4 then 65535 else if a0 = 5 then 4294967295 else if a0 = 6 then 18446744073709551615 else 0) = q at HF ⊢
    clear h1 h2
    go_enter Try.func52, Try.ntmps52
    go_wp2
    go_ret
    exact ⟨by rw [HF.out]; rfl, Drawn0.refl _⟩
  have hc : a0 = 0 ∨ a0 = 1 ∨ a0 = 2 ∨ a0 = 3 ∨ a0 = 4 ∨ a0 = 5 ∨ a0 = 6 := by omega
  clear h1 h2
  rcases hc with rfl | rfl | rfl | rfl | rfl | rfl | rfl
  all_goals
    go_enter Try.func52, Try.ntmps52
    go_wp2
    go_ret
    exact ⟨by rfl, Drawn0.refl _⟩

end Go.Proofs.Ytagpbgabcenodaa.PB
