-- the contract of Pin: hand-written; the function as the print has it
import Derived.Test.YtgajgnemfccnhaaPAx0
namespace Go.Proofs.Ytgajgnemfccnhaa.PA
open Go.RowKit Go.Proofs.YtgajgnemfccnhaaW.PrintWords Go.Proofs.YtgajgnemfccnhaaW.PrintLast Go.Proofs.YtgajgnemfccnhaaW.PrintMore
attribute [local go_sem] max2_int min2_int max_two min_two max_three min_three max_four min_four   -- for this text's walks alone
set_option linter.unusedVariables false
set_option linter.unusedSimpArgs false

/-! ### floor_Pin: function 19 -/
def floor_Pin.f (a0_0 : ByteArray) (a0_1 : Bool) (a0_2 : Int) (a0_3 : Int) (a0_4 : Int) (l0_5 : List Int) (l0_6 : List Int) (l0_7 : List Int) (a0_8 : Int) (a0_9 : Int) (a0_10 : Int) (a1_0 : Int) (a1_1 : Int) (a2 : Int) : Option (Int × Int) := if a2 < a0_2 then (some (wrap64 ((wrap64 (4 + (wrap64 (4 * a1_1)))) + (wrap64 (2 * a2))), wrap64 (4 + (wrap64 (4 * a1_0))))) else (if a2 = a0_2 then (some (wrap64 ((wrap64 ((wrap64 (4 + (wrap64 (4 * a1_1)))) + (wrap64 (4 * a0_4)))) - 2), wrap64 ((wrap64 (4 + (wrap64 (4 * a1_0)))) + 2))) else (some (wrap64 (4 + (wrap64 (4 * a1_1))), wrap64 ((wrap64 (4 + (wrap64 (4 * a1_0)))) + 2))))
set_option maxHeartbeats 400000 in
set_option maxRecDepth 100000 in
theorem floor_Pin.calls (a0_0 : ByteArray) (a0_1 : Bool) (a0_2 : Int) (a0_3 : Int) (a0_4 : Int) (A0_5 : Option Addr) (c0_5 : Nat) (l0_5 : List Int) (A0_6 : Option Addr) (c0_6 : Nat) (l0_6 : List Int) (A0_7 : Option Addr) (c0_7 : Nat) (l0_7 : List Int) (a0_8 : Int) (a0_9 : Int) (a0_10 : Int) (a1_0 : Int) (a1_1 : Int) (a2 : Int) (r1 : Int) (r2 : Int) (w : World) (hr0_5 : Kd.C (Kd.int .i64) w A0_5 l0_5.length l0_5) (hc0_5 : l0_5.length ≤ c0_5) (hr0_6 : Kd.C (Kd.int .i64) w A0_6 l0_6.length l0_6) (hc0_6 : l0_6.length ≤ c0_6) (hr0_7 : Kd.C (Kd.int .i64) w A0_7 l0_7.length l0_7) (hc0_7 : l0_7.length ≤ c0_7) (h : floor_Pin.f a0_0 a0_1 a0_2 a0_3 a0_4 l0_5 l0_6 l0_7 a0_8 a0_9 a0_10 a1_0 a1_1 a2 = some (r1, r2)) :
    Calls Try.prog 19 #[.agg #[.string a0_0, .bool a0_1, .int .i64 a0_2, .int .u64 a0_3, .int .i64 a0_4, .slice A0_5 l0_5.length c0_5, .slice A0_6 l0_6.length c0_6, .slice A0_7 l0_7.length c0_7, .int .i64 a0_8, .int .i64 a0_9, .int .i64 a0_10], .agg #[.int .i64 a1_0, .int .i64 a1_1], .int .i64 a2] w fun e w' => e = .returned (.agg #[.int .i64 r1, .int .i64 r2]) ∧ Below w.heap.size w w' := by
  have hb0 : Below w.heap.size w w := Below.refl _ _
  unfold floor_Pin.f at h
  by_cases c4 : a2 < a0_2
  · rw [if_pos c4] at h
    have c4b0 : decide (a2 < a0_2) = true := decide_eq_true c4
    clear c4
    simp only [Option.some.injEq, Prod.mk.injEq] at h
    obtain ⟨rfl, rfl⟩ := h
    go_enter Try.func19, Try.ntmps19
    go_wp2
    refine bodyPost_ret (v := .agg #[.int .i64 (wrap64 (wrap64 (4 + wrap64 (4 * a1_1)) + wrap64 (2 * a2))), .int .i64 (wrap64 (4 + wrap64 (4 * a1_0)))]) (by simp [results, Try.results19, go_sem]) rfl ⟨rfl, ?_⟩
    exact (below_alloc (below_alloc (below_alloc (below_alloc hb0 _) _) _) _)
  · rw [if_neg c4] at h
    have c4b0 : decide (a2 < a0_2) = false := decide_eq_false c4
    clear c4
    by_cases c5 : a2 = a0_2
    · rw [if_pos c5] at h
      have c5b0 : (a2 == a0_2) = true := beq_iff_eq.mpr c5
      clear c5
      simp only [Option.some.injEq, Prod.mk.injEq] at h
      obtain ⟨rfl, rfl⟩ := h
      go_enter Try.func19, Try.ntmps19
      go_wp2
      refine bodyPost_ret (v := .agg #[.int .i64 (wrap64 (wrap64 (wrap64 (4 + wrap64 (4 * a1_1)) + wrap64 (4 * a0_4)) - 2)), .int .i64 (wrap64 (wrap64 (4 + wrap64 (4 * a1_0)) + 2))]) (by simp [results, Try.results19, go_sem]) rfl ⟨rfl, ?_⟩
      exact (below_alloc (below_alloc (below_alloc (below_alloc hb0 _) _) _) _)
    · rw [if_neg c5] at h
      have c5b0 : (a2 == a0_2) = false := beq_eq_false_iff_ne.mpr c5
      clear c5
      simp only [Option.some.injEq, Prod.mk.injEq] at h
      obtain ⟨rfl, rfl⟩ := h
      go_enter Try.func19, Try.ntmps19
      go_wp2
      refine bodyPost_ret (v := .agg #[.int .i64 (wrap64 (4 + wrap64 (4 * a1_1))), .int .i64 (wrap64 (wrap64 (4 + wrap64 (4 * a1_0)) + 2))]) (by simp [results, Try.results19, go_sem]) rfl ⟨rfl, ?_⟩
      exact (below_alloc (below_alloc (below_alloc (below_alloc hb0 _) _) _) _)
end Go.Proofs.Ytgajgnemfccnhaa.PA
