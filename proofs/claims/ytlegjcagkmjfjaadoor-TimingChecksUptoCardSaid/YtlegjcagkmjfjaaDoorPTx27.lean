-- PRINTED by print.py (a twelfth state) out of the translation. Not trusted: Lean checks it.
import Derived.Test.YtlegjcagkmjfjaaDoorPTx0
import Derived.Test.YtlegjcagkmjfjaaDoorPTw5
namespace Go.Proofs.YtlegjcagkmjfjaaDoor.PT
open Go.RowKit Go.Proofs.YtlegjcagkmjfjaaDoorW.PrintWords Go.Proofs.YtlegjcagkmjfjaaDoorW.PrintLast Go.Proofs.YtlegjcagkmjfjaaDoorW.PrintMore
attribute [local go_sem] max2_int min2_int max_two min_two max_three min_three max_four min_four   -- for this text's walks alone
set_option linter.unusedVariables false
set_option linter.unusedSimpArgs false

-- the contract of function 26 (maskwright/clocks.Check): written by hand
/-! ### clocks_Check: function 26 -/
def clocks_Check.ok (l1 : List (S78)) (l2 : List (S81)) (l3 : List (S83)) : Bool := l1.all (fun x => decide (x.f0.size ≤ 140737488355328)) && l2.all (fun x => decide (x.f0.size ≤ 140737488355328)) && l3.all (fun x => decide (x.f0.size ≤ 140737488355328) && decide (x.f1.size ≤ 140737488355328))
def clocks_Check.f (a0_0 : Int) (l0_1 : List (S78)) (l0_2 : List (S81)) (l0_3 : List (S83)) : Option Int := if clocks_Check.ok l0_1 l0_2 l0_3 = true then some (CheckV a0_0 l0_1 l0_2 l0_3) else none
theorem clocks_Check.str {l1 : List (S78)} {l2 : List (S81)} {l3 : List (S83)} (h : clocks_Check.ok l1 l2 l3 = true) : StrOk l1 l2 l3 := by
  unfold clocks_Check.ok at h
  simp only [Bool.and_eq_true, List.all_eq_true, decide_eq_true_eq] at h
  exact ⟨h.1.1, h.1.2, h.2⟩
theorem clocks_Check.calls (a0_0 : Int) (A0_1 : Option Addr) (c0_1 : Nat) (l0_1 : List (S78)) (A0_2 : Option Addr) (c0_2 : Nat) (l0_2 : List (S81)) (A0_3 : Option Addr) (c0_3 : Nat) (l0_3 : List (S83)) (r : Int) (w : World) (hr0_1 : Kd.C k78 w A0_1 l0_1.length l0_1) (hc0_1 : l0_1.length ≤ c0_1) (hr0_2 : Kd.C k81 w A0_2 l0_2.length l0_2) (hc0_2 : l0_2.length ≤ c0_2) (hr0_3 : Kd.C k83 w A0_3 l0_3.length l0_3) (hc0_3 : l0_3.length ≤ c0_3) (h : clocks_Check.f a0_0 l0_1 l0_2 l0_3 = some r) (hT : TabS w a0_0 l0_1 l0_2 l0_3) :
    Calls Tryd.prog 26 #[.agg #[.int .i64 a0_0, .slice A0_1 l0_1.length c0_1, .slice A0_2 l0_2.length c0_2, .slice A0_3 l0_3.length c0_3]] w fun e w' => e = .returned (.int .i64 r) ∧ Below w.heap.size w w' := by
  by_cases e : clocks_Check.ok l0_1 l0_2 l0_3 = true
  · unfold clocks_Check.f at h
    rw [if_pos e] at h
    obtain rfl := Option.some.inj h
    exact check_calls a0_0 A0_1 c0_1 l0_1 A0_2 c0_2 l0_2 A0_3 c0_3 l0_3 w hr0_1 hc0_1 hr0_2 hc0_2 hr0_3 hc0_3 (clocks_Check.str e) hT
  · unfold clocks_Check.f at h
    rw [if_neg e] at h
    exact absurd h (by simp)

theorem TabS_on {w : World} {p : Int} {l1 : List S78} {l2 : List S81} {l3 : List S83} (h : TabS w p l1 l2 l3) : ∀ W, Below w.heap.size w W → TabS W p l1 l2 l3 := by
  intro W hb
  rcases h with h | h
  · exact .inl (fun w2 h2 => h w2 (hb.trans (h2.mono hb.size)))
  · exact .inr h
end Go.Proofs.YtlegjcagkmjfjaaDoor.PT
