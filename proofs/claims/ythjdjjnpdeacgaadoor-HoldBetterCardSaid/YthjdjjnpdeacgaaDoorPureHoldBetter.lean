/- The pure statement of the law HoldBetter, proved: a change that helps an endpoint, against the reference's. No conditions. -/
import Derived.Test.YthjdjjnpdeacgaaDoorStmHoldBetter
import Derived.Test.YthjdjjnpdeacgaaDoorAid
namespace Go.Proofs.YthjdjjnpdeacgaaDoor.Pure
open Go.RowKit Go.Proofs.YthjdjjnpdeacgaaDoorW.PrintWords Go.Proofs.YthjdjjnpdeacgaaDoor.Opn Go.Proofs.YthjdjjnpdeacgaaDoor.PT Go.Proofs.YthjdjjnpdeacgaaDoor.SHoldBetter Go.Proofs.YthjdjjnpdeacgaaDoor.Aid
set_option linter.unusedVariables false

theorem mends_once : masklaw4_mends.f 20 = some true := by decide +kernel
theorem mends_work : Ev (fun k => masklaw4_mends.f k) true := Ev.of (fun k => masklaw4_mends.mono k) mends_once

abbrev Slk := S25
abbrev End_ := S27
/-- A negative slack. -/
def ng (s : Slk) : Bool := s.f0 && decide (s.f1 < 0)
theorem ng_eq (s : Slk) : maskref4_negative.f s.f0 s.f1 s.f2 = some (ng s) := by
  unfold maskref4_negative.f ng
  cases h : s.f0 <;> simp
theorem bd_eq (a b : Slk) : hold_bad.f a.f0 a.f1 a.f2 b.f0 b.f1 b.f2 = some (ng b && !ng a) := by
  unfold hold_bad.f ng
  cases h : b.f0 <;> cases h' : a.f0 <;> by_cases c : b.f1 < 0 <;> by_cases d : a.f1 < 0 <;> simp [c, d] <;> omega

section
variable (l0 l1 : List End_) (hl : l0.length = l1.length) (hn : l0.length ≤ 9223372036854775807)
/-- What Better looks for at an endpoint. -/
def hurt (i : Nat) : Bool := (ng (l1.getD i z27).f2 && !ng (l0.getD i z27).f2) || (ng (l1.getD i z27).f3 && !ng (l0.getD i z27).f3)
include hl hn in
theorem better_step (i : Nat) (hi : i < l0.length) (r : Bool) (h : (hurt l0 l1 i = true ∧ r = false) ∨ (hurt l0 l1 i = false ∧ Ev (fun k => hold_Better.l0 k l0 l1 (l0.length : Int) ((i + 1 : Nat) : Int)) r)) :
    Ev (fun k => hold_Better.l0 k l0 l1 (l0.length : Int) (i : Int)) r := by
  refine Ev.step (fun k => by rw [hold_Better.l0]) ?_
  refine Ev.pos (by omega) (Ev.pos (by omega) (Ev.pos (by omega) (Ev.pos (by omega) (Ev.val (bd_eq _ _) ?_))))
  rw [show rd_T27 l0 (i : Int) = l0.getD i z27 from rfl, show rd_T27 l1 (i : Int) = l1.getD i z27 from rfl]
  unfold hurt at h
  generalize l0.getD i z27 = x at h ⊢
  generalize l1.getD i z27 = y at h ⊢
  cases h1 : (ng y.f2 && !ng x.f2) with
  | true =>
    rw [h1] at h
    rcases h with ⟨_, rfl⟩ | ⟨h, _⟩
    · exact Ev.pos rfl (Ev.now _)
    · simp at h
  | false =>
    rw [h1] at h
    refine Ev.neg (by decide) (Ev.val (bd_eq _ _) ?_)
    cases h2 : (ng y.f3 && !ng x.f3) with
    | true =>
      rw [h2] at h
      rcases h with ⟨_, rfl⟩ | ⟨h, _⟩
      · exact Ev.pos rfl (Ev.now _)
      · simp at h
    | false =>
      rw [h2] at h
      rcases h with ⟨h, _⟩ | ⟨_, h⟩
      · simp at h
      · refine Ev.neg (by decide) ?_
        rw [ws hi hn]
        exact h
include hl hn in
theorem helps_step (i : Nat) (hi : i < l0.length) (r : Bool) (h : (hurt l0 l1 i = true ∧ r = false) ∨ (hurt l0 l1 i = false ∧ Ev (fun k => maskref4_Helps.l0 k l0 l1 (l1.length : Int) ((i + 1 : Nat) : Int)) r)) :
    Ev (fun k => maskref4_Helps.l0 k l0 l1 (l1.length : Int) (i : Int)) r := by
  have j2 : ∀ b, ((b = true ∧ r = false) ∨ (b = false ∧ Ev (fun k => maskref4_Helps.l0 k l0 l1 (l1.length : Int) ((i + 1 : Nat) : Int)) r)) → Ev (fun k => maskref4_Helps.j2 k l0 l1 (l1.length : Int) (i : Int) b) r := by
    intro b hb
    refine Ev.step (fun k => by rw [maskref4_Helps.j2]) ?_
    rcases hb with ⟨rfl, rfl⟩ | ⟨rfl, hb⟩
    · exact Ev.pos rfl (Ev.now _)
    · refine Ev.neg (by decide) ?_
      rw [ws hi hn]
      exact hb
  refine Ev.step (fun k => by rw [maskref4_Helps.l0]) ?_
  refine Ev.pos (by omega) (Ev.pos (by omega) (Ev.pos (by omega) (Ev.val (ng_eq _) ?_)))
  rw [show rd_T27 l0 (i : Int) = l0.getD i z27 from rfl, show rd_T27 l1 (i : Int) = l1.getD i z27 from rfl]
  unfold hurt at h
  generalize l0.getD i z27 = x at h ⊢
  generalize l1.getD i z27 = y at h ⊢
  cases h1 : ng y.f2 with
  | true =>
    refine Ev.pos rfl (Ev.pos (by omega) (Ev.val (ng_eq _) ?_))
    cases h2 : ng x.f2 with
    | true =>
      refine Ev.pos rfl (Ev.val (ng_eq _) ?_)
      cases h3 : ng y.f3 with
      | true =>
        refine Ev.pos rfl (Ev.val (ng_eq _) (j2 _ ?_))
        rw [h1, h2, h3] at h
        simpa using h
      | false =>
        refine Ev.neg (by decide) (j2 _ ?_)
        rw [h1, h2, h3] at h
        simpa using h
    | false =>
      refine Ev.neg (by decide) (j2 _ ?_)
      rw [h1, h2] at h
      simpa using h
  | false =>
    refine Ev.neg (by decide) (Ev.val (ng_eq _) ?_)
    cases h3 : ng y.f3 with
    | true =>
      refine Ev.pos rfl (Ev.pos (by omega) (Ev.val (ng_eq _) (j2 _ ?_)))
      rw [h1, h3] at h
      simpa using h
    | false =>
      refine Ev.neg (by decide) (j2 _ ?_)
      rw [h1, h3] at h
      simpa using h
include hl hn in
theorem loops_both : ∃ r, Ev (fun k => hold_Better.l0 k l0 l1 (l0.length : Int) 0) r ∧ Ev (fun k => maskref4_Helps.l0 k l0 l1 (l1.length : Int) 0) r := by
  have key := down (P := fun i => ∃ r, Ev (fun k => hold_Better.l0 k l0 l1 (l0.length : Int) (i : Int)) r ∧ Ev (fun k => maskref4_Helps.l0 k l0 l1 (l1.length : Int) (i : Int)) r) l0.length ?_ ?_ 0 (by omega)
  · simpa using key
  · refine ⟨true, Ev.step (fun k => by rw [hold_Better.l0]) (Ev.neg (by omega) (Ev.now _)), Ev.step (fun k => by rw [maskref4_Helps.l0]) (Ev.neg (by omega) (Ev.now _))⟩
  · intro i hi ⟨r, g, h⟩
    cases hh : hurt l0 l1 i with
    | true => exact ⟨false, better_step l0 l1 hl hn i hi _ (.inl ⟨hh, rfl⟩), helps_step l0 l1 hl hn i hi _ (.inl ⟨hh, rfl⟩)⟩
    | false => exact ⟨r, better_step l0 l1 hl hn i hi _ (.inr ⟨hh, g⟩), helps_step l0 l1 hl hn i hi _ (.inr ⟨hh, h⟩)⟩
end
theorem better_j (l0 l1 : List End_) (b r : Bool) (h : (b = true ∧ r = false) ∨ (b = false ∧ Ev (fun k => hold_Better.l0 k l0 l1 (l0.length : Int) 0) r)) : Ev (fun k => hold_Better.j0 k l0 l1 b) r := by
  refine Ev.step (fun k => by rw [hold_Better.j0]) ?_
  rcases h with ⟨rfl, rfl⟩ | ⟨rfl, h⟩
  · exact Ev.pos rfl (Ev.now _)
  · exact Ev.neg (by decide) h
theorem helps_j (l0 l1 : List End_) (b r : Bool) (h : (b = true ∧ r = false) ∨ (b = false ∧ Ev (fun k => maskref4_Helps.l0 k l0 l1 (l1.length : Int) 0) r)) : Ev (fun k => maskref4_Helps.j0 k l0 l1 b) r := by
  refine Ev.step (fun k => by rw [maskref4_Helps.j0]) ?_
  rcases h with ⟨rfl, rfl⟩ | ⟨rfl, h⟩
  · exact Ev.pos rfl (Ev.now _)
  · exact Ev.neg (by decide) h
theorem in_eq (a : Int) (n : Nat) (hn : n ≤ 9223372036854775807) : maskref4_In.f a 0 (wrap64 ((n : Int) - 1)) = some (decide (0 ≤ a ∧ a < (n : Int))) := by
  rw [w64 (by omega) (by omega)]
  unfold maskref4_In.f
  by_cases h : 0 ≤ a
  · rw [if_pos h]
    congr 1
    simp only [decide_eq_decide]
    omega
  · rw [if_neg h]
    congr 1
    exact (decide_eq_false (by omega)).symm
theorem both (l0 l1 : List End_) (a2 : Int) (hn : l0.length ≤ 9223372036854775807) : ∃ r, Ev (fun k => hold_Better.f k l0 l1 a2) r ∧ Ev (fun k => maskref4_Helps.f k l0 l1 a2) r := by
  unfold hold_Better.f maskref4_Helps.f
  by_cases h0 : (l0.length : Int) = (l1.length : Int)
  · have hl : l0.length = l1.length := by omega
    by_cases h1 : a2 < 0
    · exact ⟨false, Ev.pos h0 (Ev.pos h1 (better_j _ _ _ _ (.inl ⟨rfl, rfl⟩))), Ev.pos h0 (Ev.val (in_eq a2 _ hn) (Ev.neg (by simp; omega) (helps_j _ _ _ _ (.inl ⟨rfl, rfl⟩))))⟩
    · by_cases h2 : a2 ≥ (l0.length : Int)
      · exact ⟨false, Ev.pos h0 (Ev.neg h1 (Ev.pos h2 (better_j _ _ _ _ (.inl ⟨rfl, rfl⟩)))), Ev.pos h0 (Ev.val (in_eq a2 _ hn) (Ev.neg (by simp; omega) (helps_j _ _ _ _ (.inl ⟨rfl, rfl⟩))))⟩
      · obtain ⟨r, g, h⟩ := loops_both l0 l1 hl hn
        have hd : ∀ b, ∃ r, Ev (fun k => hold_Better.j0 k l0 l1 b) r ∧ Ev (fun k => maskref4_Helps.j0 k l0 l1 b) r := by
          intro b
          cases b with
          | true => exact ⟨false, better_j _ _ _ _ (.inl ⟨rfl, rfl⟩), helps_j _ _ _ _ (.inl ⟨rfl, rfl⟩)⟩
          | false => exact ⟨r, better_j _ _ _ _ (.inr ⟨rfl, g⟩), helps_j _ _ _ _ (.inr ⟨rfl, h⟩)⟩
        obtain ⟨q, g1, g2⟩ := hd (decide ((rd_T27 l1 a2).f3.f1 ≤ (rd_T27 l0 a2).f3.f1))
        exact ⟨q, Ev.pos h0 (Ev.neg h1 (Ev.neg h2 (Ev.pos (by omega) (Ev.pos (by omega) (Ev.pos (by omega) g1))))), Ev.pos h0 (Ev.val (in_eq a2 _ hn) (Ev.pos (by simp; omega) (Ev.pos (by omega) (Ev.pos (by omega) (Ev.pos (by omega) g2)))))⟩
  · exact ⟨false, Ev.neg h0 (better_j _ _ _ _ (.inl ⟨rfl, rfl⟩)), Ev.neg h0 (helps_j _ _ _ _ (.inl ⟨rfl, rfl⟩))⟩

theorem HoldBetter : SHoldBetter.Pure := by
  intro l0 l1 a2 h0 h1 h2
  unfold masklaw4_HoldBetter.f
  obtain ⟨r, g, h⟩ := both l0 l1 a2 h0.2.1
  refine Ev.rounds (Ev.bind mends_work (Ev.pos rfl (Ev.bind g (Ev.bind h ?_))))
  rw [beq_self_eq_true]
  exact Ev.now _
end Go.Proofs.YthjdjjnpdeacgaaDoor.Pure
