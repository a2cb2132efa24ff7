-- PRINTED by print.py (a twelfth state) out of the translation. Not trusted: Lean checks it.
import Derived.Test.YtagpbgabcenodaaPBx0
namespace Go.Proofs.Ytagpbgabcenodaa.PB
open Go.RowKit Go.Proofs.YtagpbgabcenodaaW.PrintWords Go.Proofs.YtagpbgabcenodaaW.PrintLast Go.Proofs.YtagpbgabcenodaaW.PrintMore
attribute [local go_sem] max2_int min2_int max_two min_two max_three min_three max_four min_four   -- for this text's walks alone
set_option linter.unusedVariables false
set_option linter.unusedSimpArgs false

-- the contract of function 42 (slices.Clone[[]maskwright/tree.Window,maskwright/tree.Window]): written by hand
/-! ### tree_Window: function 42 -/
def tree_Window.f (l0 : List (S45)) : Option (List (S45)) := if l0.length < 4398046511104 then some l0 else none
set_option maxHeartbeats 1000000 in
set_option maxRecDepth 100000 in
theorem tree_Window.calls (A0 : Option Addr) (c0 : Nat) (l0 : List (S45)) (r : List (S45)) (w : World) (hr0 : Kd.C k45 w A0 l0.length l0) (hc0 : l0.length ≤ c0) (h : tree_Window.f l0 = some r) :
    Calls Try.prog 42 #[.slice A0 l0.length c0] w fun e w' => ∃ v0_ : Value, e = .returned (v0_) ∧ Kd.R k45 45 w' w.heap.size (fun _ => True) v0_ r ∧ Below w.heap.size w w' := by
  unfold tree_Window.f at h
  split at h
  · rename_i hlim
    obtain rfl := Option.some.inj h
    clear h
    have hu := Try.underlying38
    rcases A0 with _ | ad
    · obtain rfl := Hnd.nilC hr0
      have he := fun W => Lib.run_eql_slice_nil (P := Try.prog) W 38 45 none 0 c0 0 0 hu
      go_enter Try.func42, Try.ntmps42
      go_wp2
      go_ret
      exact ⟨_, rfl, Kd.R_nil _ _ _ _ _, Below.refl _ _⟩
    · have he := fun W => Lib.run_eql_slice_nil (P := Try.prog) W 38 45 (some ad) l0.length c0 0 0 hu
      go_enter Try.func42, Try.ntmps42
      have hR0 := Hnd.litR k45 45 w w.heap.size (Nat.le_refl _)
      have hC0 := Kd.C_below hr0 (below_alloc (Below.refl w.heap.size w) (.cells #[] 45))
      go_wp2_with (at_builtin; refine Kd.R_append_rows k45 (w0 := w) w.heap.size rfl (.tmp 5) (.tmp 6) 38 45 (.agg #[.int .i64 0, .int .i64 0]) 16 rfl hu info45 rfl (by decide) (by decide) _ [] l0 (some ad) l0.length c0 (fun _ => True) (fun _ => False) rfl rfl hR0 hC0 (fun x cs hx => by rw [k45_open hx]; exact k45_mkM _ _ _ x) (fun _ hk => hk.elim) (fun _ _ => trivial) (below_alloc (Below.refl _ _) _) (by simp) (by simp; omega) ?_; intro v1 w1 hR hB _ _)
      go_ret
      exact ⟨_, rfl, by simpa using hR, hB⟩
  · cases h

end Go.Proofs.Ytagpbgabcenodaa.PB
