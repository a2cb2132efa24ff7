/- The pure statement of the law FloorPins, proved: the pins of a cell and whether it fits, against the reference's. No conditions. -/
import Derived.Test.YtgajgnemfccnhaaStmFloorPins
import Derived.Test.YtgajgnemfccnhaaAid
namespace Go.Proofs.Ytgajgnemfccnhaa.Pure
open Go.RowKit Go.Proofs.YtgajgnemfccnhaaW.PrintWords Go.Proofs.Ytgajgnemfccnhaa.Opn Go.Proofs.Ytgajgnemfccnhaa.PA Go.Proofs.Ytgajgnemfccnhaa.SFloorPins Go.Proofs.Ytgajgnemfccnhaa.Aid
set_option linter.unusedVariables false

theorem floors_once : masklaw4_floors.f 20 = some true := by decide +kernel
theorem floors_work : Ev (fun k => masklaw4_floors.f k) true := Ev.of (fun k => masklaw4_floors.mono k) floors_once

theorem in_eq (n a b : Int) : maskref4_In.f n a b = some (decide (a ≤ n ∧ n ≤ b)) := by
  unfold maskref4_In.f
  by_cases h : a ≤ n
  · rw [if_pos h]
    simp [h]
  · rw [if_neg h]
    simp [h]

theorem fits_eq (n : ByteArray) (fl : Bool) (ins tab area : Int) (l5 l6 l7 : List Int) (d s h : Int) (h0 : 0 ≤ ins) (h1 : ins ≤ 1073741824) (h2 : 0 ≤ area) (h3 : area ≤ 1073741824) :
    floor_Fits.f n fl ins tab area l5 l6 l7 d s h = some (decide (1 ≤ area ∧ area ≤ 40) && decide (ins ≤ wrap64 (2 * area))) := by
  unfold floor_Fits.f
  rw [w64 (x := 2 * ins) (by omega) (by omega), w64 (x := 4 * area) (by omega) (by omega), w64 (x := 2 * area) (by omega) (by omega)]
  by_cases ha : area ≥ 1
  · rw [if_pos ha]
    by_cases hb : area ≤ 40
    · rw [if_pos hb]
      have e : (2 * ins ≤ 4 * area) ↔ (ins ≤ 2 * area) := by omega
      simp [e, ha, hb]
    · rw [if_neg hb]
      simp [hb]
  · rw [if_neg ha]
    have : ¬ (1 ≤ area) := by omega
    simp [this]

theorem FloorPins : SFloorPins.Pure := by
  intro n fl ins tab area l5 l6 l7 d s h row at_ k _ _ _ _ _ _ _ _ _ _ _ _ _
  have j0 : ∀ b, (b = false → 0 ≤ ins ∧ ins ≤ 1073741824 ∧ 0 ≤ area ∧ area ≤ 1073741824) → Ev (fun q => masklaw4_FloorPins.j0 q k b n fl ins tab area l5 l6 l7 d s h row at_) true := by
    intro b hb
    refine Ev.step (fun q => by rw [masklaw4_FloorPins.j0]) ?_
    cases b with
    | true => exact Ev.pos rfl (Ev.now true)
    | false =>
      obtain ⟨h0, h1, h2, h3⟩ := hb rfl
      refine Ev.neg (by simp) ?_
      have e : maskref4_PinAt.f n fl ins tab area l5 l6 l7 d s h row at_ k = floor_Pin.f n fl ins tab area l5 l6 l7 d s h row at_ k := rfl
      rw [e]
      obtain ⟨p, hp⟩ : ∃ p, floor_Pin.f n fl ins tab area l5 l6 l7 d s h row at_ k = some p := by
        unfold floor_Pin.f
        split
        · exact ⟨_, rfl⟩
        · split <;> exact ⟨_, rfl⟩
      rw [hp]
      simp only [Option.bind_some, beq_self_eq_true, Bool.and_self, if_true]
      rw [fits_eq _ _ _ _ _ _ _ _ _ _ _ h0 h1 h2 h3, in_eq]
      simp only [Option.bind_some, decide_eq_true_eq]
      by_cases hc : 1 ≤ area ∧ area ≤ 40
      · refine Ev.pos hc ?_
        simp only [hc, and_self, decide_true, Bool.true_and, beq_self_eq_true]
        exact Ev.now true
      · refine Ev.neg hc ?_
        simp only [hc, decide_false, Bool.false_and, beq_self_eq_true]
        exact Ev.now true
  refine Ev.rounds (Ev.bind floors_work (Ev.pos rfl ?_))
  simp only [in_eq, Option.bind_some, decide_eq_true_eq]
  by_cases c1 : 0 ≤ area ∧ area ≤ 1073741824
  · refine Ev.pos c1 ?_
    by_cases c2 : 0 ≤ ins ∧ ins ≤ 1073741824
    · refine Ev.pos c2 ?_
      by_cases c3 : 0 ≤ at_ ∧ at_ ≤ 1073741824
      · refine Ev.pos c3 ?_
        by_cases c4 : 0 ≤ row ∧ row ≤ 1073741824
        · refine Ev.pos c4 ?_
          exact j0 _ (fun _ => ⟨c2.1, c2.2, c1.1, c1.2⟩)
        · exact Ev.neg c4 (j0 true (by simp))
      · exact Ev.neg c3 (j0 true (by simp))
    · exact Ev.neg c2 (j0 true (by simp))
  · exact Ev.neg c1 (j0 true (by simp))

end Go.Proofs.Ytgajgnemfccnhaa.Pure
