-- PRINTED by print.py (a twelfth state) out of the translation. Not trusted: Lean checks it.
import Derived.Test.YtodgaaggmlgenaaDoorPCx53
namespace Go.Proofs.YtodgaaggmlgenaaDoor.PC
open Go.RowKit Go.Proofs.YtodgaaggmlgenaaDoorW.PrintWords Go.Proofs.YtodgaaggmlgenaaDoorW.PrintLast Go.Proofs.YtodgaaggmlgenaaDoorW.PrintMore
attribute [local go_sem] max2_int min2_int max_two min_two max_three min_three max_four min_four   -- for this text's walks alone
set_option linter.unusedVariables false
set_option linter.unusedSimpArgs false

-- the contract of function 20 (maskwright/clocks.write): written by hand
/-! ### clocks_write: function 20 -/
def clocks_write.n (n : Int) : Bool := decide (0 ≤ n) && decide (n < 1000000000)
def clocks_write.ok (p : Int) (l1 : List (S51)) (l2 : List (S53)) (l3 : List (S49)) : Bool := clocks_write.n p && decide (l1.length ≤ 128) && decide (l2.length ≤ 128) && decide (l3.length ≤ 64) && l1.all (fun x => decide (x.f0.size ≤ 128) && clocks_write.n x.f1.f0 && clocks_write.n x.f1.f1) && l2.all (fun x => decide (x.f0.size ≤ 128) && clocks_write.n x.f1) && l3.all (fun x => decide (x.f0.size ≤ 128) && decide (x.f1.size ≤ 128) && clocks_write.n x.f2)
def clocks_write.f (a0_0 : Int) (l0_1 : List (S51)) (l0_2 : List (S53)) (l0_3 : List (S49)) : Option ByteArray := if clocks_write.ok a0_0 l0_1 l0_2 l0_3 = true then some ⟨(wrL a0_0 l0_1 l0_2 l0_3).toArray⟩ else none
theorem clocks_write.calls (a0_0 : Int) (A0_1 : Option Addr) (c0_1 : Nat) (l0_1 : List (S51)) (A0_2 : Option Addr) (c0_2 : Nat) (l0_2 : List (S53)) (A0_3 : Option Addr) (c0_3 : Nat) (l0_3 : List (S49)) (r : ByteArray) (w : World) (hr0_1 : Kd.C k51 w A0_1 l0_1.length l0_1) (hc0_1 : l0_1.length ≤ c0_1) (hr0_2 : Kd.C k53 w A0_2 l0_2.length l0_2) (hc0_2 : l0_2.length ≤ c0_2) (hr0_3 : Kd.C k49 w A0_3 l0_3.length l0_3) (hc0_3 : l0_3.length ≤ c0_3) (h : clocks_write.f a0_0 l0_1 l0_2 l0_3 = some r) (hT : TabS w a0_0 l0_1 l0_2 l0_3) :
    Calls Tryd.prog 20 #[.agg #[.int .i64 a0_0, .slice A0_1 l0_1.length c0_1, .slice A0_2 l0_2.length c0_2, .slice A0_3 l0_3.length c0_3]] w fun e w' => e = .returned (.string r) ∧ Below w.heap.size w w' := by
  unfold clocks_write.f at h
  by_cases e : clocks_write.ok a0_0 l0_1 l0_2 l0_3 = true
  · rw [if_pos e] at h
    obtain rfl := Option.some.inj h
    unfold clocks_write.ok clocks_write.n at e
    simp only [Bool.and_eq_true, List.all_eq_true, decide_eq_true_eq] at e
    obtain ⟨⟨⟨⟨⟨⟨e0, n1⟩, n2⟩, n3⟩, e1⟩, e2⟩, e3⟩ := e
    rcases hT with ht | ⟨s0, s1, s2, s3⟩
    · exact write_calls 1000000000 a0_0 A0_1 c0_1 l0_1 A0_2 c0_2 l0_2 A0_3 c0_3 l0_3 w hr0_1 hc0_1 hr0_2 hc0_2 hr0_3 hc0_3 (.inr ⟨by omega, ht⟩) ⟨e0.1, e0.2⟩ ⟨n1, fun x hx => ⟨(e1 x hx).1.1, ⟨(e1 x hx).1.2.1, (e1 x hx).1.2.2⟩, ⟨(e1 x hx).2.1, (e1 x hx).2.2⟩⟩⟩ ⟨n2, fun x hx => ⟨(e2 x hx).1, ⟨(e2 x hx).2.1, (e2 x hx).2.2⟩⟩⟩ ⟨n3, fun x hx => ⟨(e3 x hx).1.1, (e3 x hx).1.2, ⟨(e3 x hx).2.1, (e3 x hx).2.2⟩⟩⟩
    · exact write_calls 100 a0_0 A0_1 c0_1 l0_1 A0_2 c0_2 l0_2 A0_3 c0_3 l0_3 w hr0_1 hc0_1 hr0_2 hc0_2 hr0_3 hc0_3 (.inl (by omega)) ⟨e0.1, s0⟩ ⟨n1, fun x hx => ⟨(e1 x hx).1.1, ⟨(e1 x hx).1.2.1, (s1 x hx).1⟩, ⟨(e1 x hx).2.1, (s1 x hx).2⟩⟩⟩ ⟨n2, fun x hx => ⟨(e2 x hx).1, ⟨(e2 x hx).2.1, s2 x hx⟩⟩⟩ ⟨n3, fun x hx => ⟨(e3 x hx).1.1, (e3 x hx).1.2, ⟨(e3 x hx).2.1, s3 x hx⟩⟩⟩
  · rw [if_neg e] at h
    exact absurd h (by simp)

end Go.Proofs.YtodgaaggmlgenaaDoor.PC
