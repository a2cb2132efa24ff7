/- The pure statement of the law ClocksAsks, proved: At, Before and Cycles answer as the reference does. No conditions. -/
import Derived.Test.YtodgaaggmlgenaaDoorStmClocksAsks
import Derived.Test.YtodgaaggmlgenaaDoorAid
namespace Go.Proofs.YtodgaaggmlgenaaDoor.Pure
open Go.RowKit Go.Proofs.YtodgaaggmlgenaaDoorW.PrintWords Go.Proofs.YtodgaaggmlgenaaDoor.Opn Go.Proofs.YtodgaaggmlgenaaDoor.PC Go.Proofs.YtodgaaggmlgenaaDoor.SClocksAsks Go.Proofs.YtodgaaggmlgenaaDoor.Aid
set_option linter.unusedVariables false

theorem at_same (l : List S51) (hl : l.length ≤ 9223372036854775807) (s : ByteArray) : Both (fun k => clocks_At.l0 k s l (l.length : Int) 0) (fun k => maskref4_InputAt.l0 k s l (l.length : Int) 0) := by
  refine down (P := fun i => Both (fun k => clocks_At.l0 k s l (l.length : Int) (i : Int)) (fun k => maskref4_InputAt.l0 k s l (l.length : Int) (i : Int))) l.length ?_ ?_ 0 (by omega)
  · exact Both.step (fun k => by rw [clocks_At.l0]) (fun k => by rw [maskref4_InputAt.l0]) (Both.neg (by omega) (Both.now _))
  · intro i hi ih
    refine Both.step (fun k => by rw [clocks_At.l0]) (fun k => by rw [maskref4_InputAt.l0]) (Both.pos (by omega) (Both.pos (by omega) (Both.pos (by omega) ?_)))
    rw [ws hi hl]
    by_cases h : ((rd_T51 l i).f0).toList = s.toList
    · exact Both.pos h (Both.now _)
    · exact Both.neg h ih
theorem before_same (l : List S53) (hl : l.length ≤ 9223372036854775807) (s : ByteArray) : Both (fun k => clocks_Before.l0 k s l (l.length : Int) 0) (fun k => maskref4_OutputBefore.l0 k s l (l.length : Int) 0) := by
  refine down (P := fun i => Both (fun k => clocks_Before.l0 k s l (l.length : Int) (i : Int)) (fun k => maskref4_OutputBefore.l0 k s l (l.length : Int) (i : Int))) l.length ?_ ?_ 0 (by omega)
  · exact Both.step (fun k => by rw [clocks_Before.l0]) (fun k => by rw [maskref4_OutputBefore.l0]) (Both.neg (by omega) (Both.now _))
  · intro i hi ih
    refine Both.step (fun k => by rw [clocks_Before.l0]) (fun k => by rw [maskref4_OutputBefore.l0]) (Both.pos (by omega) (Both.pos (by omega) (Both.pos (by omega) ?_)))
    rw [ws hi hl]
    by_cases h : ((rd_T53 l i).f0).toList = s.toList
    · exact Both.pos h (Both.now _)
    · exact Both.neg h ih
theorem nil_list : (⟨#[]⟩ : ByteArray).toList = ([] : List UInt8) := (ba_nil _).mpr rfl
/-- Among an empty name and another one. -/
theorem among_two (n x : ByteArray) : Ev (fun k => maskref4_among.f k n [(⟨#[]⟩ : ByteArray), x]) (decide (n.toList = ([] : List UInt8)) || decide (n.toList = x.toList)) := by
  have r0 : rdOf ByteArray.empty [(⟨#[]⟩ : ByteArray), x] 0 = ⟨#[]⟩ := rfl
  have r1 : rdOf ByteArray.empty [(⟨#[]⟩ : ByteArray), x] 1 = x := rfl
  have hl : (([(⟨#[]⟩ : ByteArray), x] : List ByteArray).length : Int) = 2 := rfl
  refine Ev.step (f := fun k => _) (fun k => by unfold maskref4_among.f; rw [maskref4_among.l0, hl]) ?_
  refine Ev.pos (by omega) (Ev.pos (by omega) (Ev.pos (by omega) ?_))
  rw [r0, nil_list]
  by_cases h : n.toList = ([] : List UInt8)
  · refine Ev.pos h.symm ?_
    rw [decide_eq_true h]
    exact Ev.now _
  · refine Ev.neg (fun e => h e.symm) ?_
    rw [decide_eq_false h, Bool.false_or, show wrap64 (0 + 1) = 1 from w64 (by omega) (by omega)]
    refine Ev.step (f := fun k => _) (fun k => by rw [maskref4_among.l0, hl]) ?_
    refine Ev.pos (by omega) (Ev.pos (by omega) (Ev.pos (by omega) ?_))
    rw [r1]
    by_cases hx : n.toList = x.toList
    · refine Ev.pos hx.symm ?_
      rw [decide_eq_true hx]
      exact Ev.now _
    · refine Ev.neg (fun e => hx e.symm) ?_
      rw [decide_eq_false hx, show wrap64 (1 + 1) = 2 from w64 (by omega) (by omega)]
      refine Ev.step (f := fun k => _) (fun k => by rw [maskref4_among.l0]) ?_
      exact Ev.neg (by omega) (Ev.now _)
theorem cycles_same (l : List S49) (hl : l.length ≤ 9223372036854775807) (a b : ByteArray) : Both (fun k => clocks_Cycles.l0 k a b l (l.length : Int) 0) (fun k => maskref4_CyclesOf.l0 k a b l (l.length : Int) 0) := by
  refine down (P := fun i => Both (fun k => clocks_Cycles.l0 k a b l (l.length : Int) (i : Int)) (fun k => maskref4_CyclesOf.l0 k a b l (l.length : Int) (i : Int))) l.length ?_ ?_ 0 (by omega)
  · exact Both.step (fun k => by rw [clocks_Cycles.l0]) (fun k => by rw [maskref4_CyclesOf.l0]) (Both.neg (by omega) (Both.now _))
  · intro i hi ih
    refine Both.step (fun k => by rw [clocks_Cycles.l0]) (fun k => by rw [maskref4_CyclesOf.l0]) (Both.pos (by omega) (Both.pos (by omega) (Both.pos (by omega) ?_)))
    rw [ws hi hl]
    generalize rd_T49 l i = x
    refine Both.bindr (among_two x.f0 a) ?_
    have second : Both (fun k => if (x.f1).toList = ([] : List UInt8) then (some (x.f2)) else (if (x.f1).toList = b.toList then (some (x.f2)) else (clocks_Cycles.l0 k a b l (l.length : Int) ((i + 1 : Nat) : Int))))
        (fun k => (maskref4_among.f k (x.f1) (([(⟨#[]⟩ : ByteArray), b] : List ByteArray))).bind fun t145 => (if t145 = true then (some (x.f2)) else (maskref4_CyclesOf.l0 k a b l (l.length : Int) ((i + 1 : Nat) : Int)))) := by
      refine Both.bindr (among_two x.f1 b) ?_
      by_cases h1 : x.f1.toList = ([] : List UInt8)
      · exact Both.posl h1 (Both.posr (by rw [decide_eq_true h1]; rfl) (Both.now _))
      · refine Both.negl h1 ?_
        by_cases h2 : x.f1.toList = b.toList
        · exact Both.posl h2 (Both.posr (by rw [decide_eq_true h2, Bool.or_true]) (Both.now _))
        · exact Both.negl h2 (Both.negr (by rw [decide_eq_false h1, decide_eq_false h2]; decide) ih)
    by_cases h1 : x.f0.toList = ([] : List UInt8)
    · exact Both.posl h1 (Both.posr (by rw [decide_eq_true h1]; rfl) second)
    · refine Both.negl h1 ?_
      by_cases h2 : x.f0.toList = a.toList
      · exact Both.posl h2 (Both.posr (by rw [decide_eq_true h2, Bool.or_true]) second)
      · exact Both.negl h2 (Both.negr (by rw [decide_eq_false h1, decide_eq_false h2]; decide) ih)

theorem ClocksAsks : SClocksAsks.Pure := by
  intro p l1 l2 l3 a b _ h1 h2 h3 _ _
  obtain ⟨x, x1, x2, _⟩ := at_same l1 h1.2.1 a
  obtain ⟨y, y1, y2, _⟩ := before_same l2 h2.2.1 b
  obtain ⟨z, z1, z2, _⟩ := cycles_same l3 h3.2.1 a b
  have key : Ev (fun k => masklaw4_ClocksAsks.f k p l1 l2 l3 a b) true := by
    unfold masklaw4_ClocksAsks.f
    refine Ev.val rfl (Ev.pos rfl (Ev.bind x1 (Ev.bind x2 (Ev.pos (by simp) (Ev.bind y1 (Ev.bind y2 (Ev.pos rfl (Ev.bind z1 (Ev.bind z2 ?_)))))))))
    rw [show (z == z) = true by simp]
    exact Ev.now _
  exact key.rounds
end Go.Proofs.YtodgaaggmlgenaaDoor.Pure
