/- The pure statement of the law TimingChecks, proved. -/
import Derived.Test.YtlegjcagkmjfjaaDoorLTimingChecksNetT
import Derived.Test.YtlegjcagkmjfjaaDoorLTimingChecksAsked
import Derived.Test.YtlegjcagkmjfjaaDoorLTimingChecksDelays
namespace Go.Proofs.YtlegjcagkmjfjaaDoor.Pure
open Go.RowKit Go.Proofs.YtlegjcagkmjfjaaDoorW.PrintWords Go.Proofs.YtlegjcagkmjfjaaDoor.Opn Go.Proofs.YtlegjcagkmjfjaaDoor.PT Go.Proofs.YtlegjcagkmjfjaaDoor.STimingChecks Go.Proofs.YtlegjcagkmjfjaaDoor.Aid Go.Proofs.YtlegjcagkmjfjaaDoor.LTimingChecks
set_option linter.unusedVariables false

section
variable (n0 n1 : List ByteArray) (fl : List S58) (gs : List S72) (os : List Int) (hf : fl.length ≤ 1048576) (ho : os.length ≤ 1048576)
abbrev Few (r : List S49) : Prop := r.length ≤ 9223372036854775807
include hf ho in
theorem outs_same2 : ∀ i, i ≤ os.length → ∀ acc : List S49, acc.length ≤ 2 * fl.length + i → Two Few (fun k => timing_Ends.l2 k acc (os.length : Int) (i : Int)) (fun k => maskref4_EndsOf.l2 k acc (os.length : Int) (i : Int)) := by
  refine down _ ?_ ?_
  · intro acc ha
    exact Both.step (fun k => by rw [timing_Ends.l2]) (fun k => by rw [maskref4_EndsOf.l2]) (Both.neg (by omega) (Two.now _ (by show acc.length ≤ _; omega)))
  · intro i hi ih acc ha
    refine Both.step (fun k => by rw [timing_Ends.l2]) (fun k => by rw [maskref4_EndsOf.l2]) (Both.pos (by omega) (Both.pos (by omega) ?_))
    rw [ws hi (by omega)]
    exact ih _ (by rw [List.length_append, List.length_singleton]; omega)
theorem takes_two (x : S58) : ∃ n : Nat, n ≤ 2 ∧ maskref4_Takes.f x.f0 x.f1 x.f2 x.f3 x.f4 = some (n : Int) := by
  unfold maskref4_Takes.f
  split
  · exact ⟨_, by decide, rfl⟩
  · exact ⟨_, by decide, rfl⟩
include hf ho in
theorem ends_same : Two Few (fun k => timing_Ends.f k n0 n1 fl gs os) (fun k => maskref4_EndsOf.f k n0 n1 fl gs os) := by
  unfold timing_Ends.f maskref4_EndsOf.f
  have key := down (P := fun i => ∀ acc : List S49, acc.length ≤ 2 * i → Two Few (fun k => timing_Ends.l0 k acc fl (fl.length : Int) (i : Int) n0 n1 fl gs os) (fun k => maskref4_EndsOf.l0 k acc (fl.length : Int) (i : Int) n0 n1 fl gs os)) fl.length ?_ ?_ 0 (by omega)
  · exact key [] (by simp)
  · intro acc ha
    refine Both.step (fun k => by rw [timing_Ends.l0]) (fun k => by rw [maskref4_EndsOf.l0]) (Both.neg (by omega) ?_)
    exact outs_same2 fl os hf ho 0 (by omega) acc (by omega)
  · intro i hi ih acc ha
    refine Both.step (fun k => by rw [timing_Ends.l0]) (fun k => by rw [maskref4_EndsOf.l0]) (Both.pos (by omega) ?_)
    obtain ⟨t, ht, et⟩ := takes_two (rd_T58 fl (i : Int))
    refine Both.posl (by omega) (Both.posl (by omega) (Both.vall (by rw [show delay_Inputs.f = maskref4_Takes.f from rfl]; exact et) ?_))
    have inner := down (P := fun j => ∀ acc : List S49, acc.length ≤ 2 * i + j → Two Few (fun k => timing_Ends.l1 k acc (i : Int) fl (fl.length : Int) (i : Int) (t : Int) (j : Int) n0 n1 fl gs os) (fun k => maskref4_EndsOf.l1 k acc (i : Int) (j : Int) (fl.length : Int) (i : Int) n0 n1 fl gs os)) t ?_ ?_ 0 (by omega)
    · exact inner acc (by omega)
    · intro acc ha
      refine Both.step (fun k => by rw [timing_Ends.l1]) (fun k => by rw [maskref4_EndsOf.l1]) (Both.posr (by omega) (Both.posr (by omega) (Both.valr et ?_)))
      refine Both.neg (by omega) ?_
      rw [ws hi (by omega)]
      exact ih acc (by omega)
    · intro j hj ihj acc ha
      refine Both.step (fun k => by rw [timing_Ends.l1]) (fun k => by rw [maskref4_EndsOf.l1]) (Both.posr (by omega) (Both.posr (by omega) (Both.valr et ?_)))
      refine Both.pos (by omega) (Both.pos (by omega) ?_)
      rw [ws hj (by omega)]
      exact ihj _ (by rw [List.length_append, List.length_singleton]; omega)
end
theorem end_refl (l : List S49) (hl : l.length ≤ 9223372036854775807) : Ev (fun k => timing_End.f k l l) true := by
  unfold timing_End.f
  refine Ev.pos rfl ?_
  refine down (P := fun i => Ev (fun k => timing_End.l0 k l l (l.length : Int) (i : Int)) true) l.length ?_ ?_ 0 (by omega)
  · exact Ev.step (fun k => by rw [timing_End.l0]) (Ev.neg (by omega) (Ev.now _))
  · intro i hi ih
    refine Ev.step (fun k => by rw [timing_End.l0]) (Ev.pos (by omega) (Ev.pos (by omega) (Ev.pos (by omega) (Ev.pos (by omega) (Ev.neg (by simp) ?_)))))
    rw [ws hi hl]
    exact ih
theorem TimingChecks : STimingChecks.Pure := by
  intro l0 l1 l2 l3 l4 l5 l6 l7 l8 l9 l10 a11 l12 l13 l14 g0 g1 g2 g3 g4 g5 g6 g7 g8 g9 g10 g11 g12 g13 g14 n0 n1 n2 n3 n4 n5 n6 n7 n8 n9 n10 n12 n13 n14
  have D := delays_same l0 l1 l2 l3 l4 l6 l7 l8 l9 l10 (by omega) (by omega) g6 g7 g8 g9 g10
  have s1 : ∀ x ∈ l12, x.f0.size ≤ 140737488351232 := fun x hx => (g12.2.2 x hx).1
  have s2 : ∀ x ∈ l13, x.f0.size ≤ 140737488351232 := fun x hx => (g13.2.2 x hx).1
  have s3 : ∀ x ∈ l14, x.f0.size ≤ 140737488351232 ∧ x.f1.size ≤ 140737488351232 := fun x hx => ⟨(g14.2.2 x hx).1, (g14.2.2 x hx).2.1⟩
  have A := asked_same a11 l12 l13 l14 l0 l1 l2 l3 l4 (by omega) (by omega) (by omega) s1 s2 s3 (by omega) (by omega) (by omega)
  have C : Both (fun k => timing_Check.f k l0 l1 l2 l3 l4 l5 l6 l7 l8 l9 l10 a11 l12 l13 l14) (fun k => maskref4_JobFault.f k l0 l1 l2 l3 l4 l5 l6 l7 l8 l9 l10 a11 l12 l13 l14) := by
    unfold timing_Check.f maskref4_JobFault.f
    obtain ⟨e, he, _⟩ := net_tot l0 l1 l2 l3 l4 l5 (by omega) (by omega) (by omega)
    refine Both.bindl he (Both.bindr he ?_)
    by_cases h : e = 0
    · refine Both.pos h ?_
      have key := down (P := fun i => Both (fun k => timing_Check.l0 k l2 (l2.length : Int) (i : Int) l0 l1 l2 l3 l4 l5 l6 l7 l8 l9 l10 a11 l12 l13 l14) (fun k => maskref4_JobFault.l0 k l2 (l2.length : Int) (i : Int) l0 l1 l2 l3 l4 l5 l6 l7 l8 l9 l10 a11 l12 l13 l14)) l2.length ?_ ?_ 0 (by omega)
      · exact key
      · refine Both.step (fun k => by rw [timing_Check.l0]) (fun k => by rw [maskref4_JobFault.l0]) (Both.neg (by omega) ?_)
        refine Both.bind D (fun t _ => ?_)
        by_cases ht : t = 0
        · refine Both.pos ht ?_
          exact Both.bind A (fun t _ => Both.now t)
        · exact Both.neg ht (Both.now t)
      · intro i hi ih
        refine Both.step (fun k => by rw [timing_Check.l0]) (fun k => by rw [maskref4_JobFault.l0]) (Both.pos (by omega) (Both.pos (by omega) (Both.pos (by omega) ?_)))
        rw [ws hi (by omega)]
        by_cases hn : (rd_T58 l2 (i : Int)).f1 < 0
        · exact Both.pos hn (Both.now 8)
        · exact Both.neg hn ih
    · exact Both.neg h (Both.now e)
  obtain ⟨r, f1, f2, _⟩ := C
  obtain ⟨en, e1, e2, hl⟩ := ends_same l0 l1 l2 l3 l4 n2 n4
  have key : Ev (fun k => masklaw4_TimingChecks.f k l0 l1 l2 l3 l4 l5 l6 l7 l8 l9 l10 a11 l12 l13 l14) true := by
    unfold masklaw4_TimingChecks.f
    exact Ev.val rfl (Ev.pos rfl (Ev.bind f1 (Ev.bind f2 (Ev.pos rfl (Ev.val rfl (Ev.pos rfl (Ev.bind e1 (Ev.bind e2 (Ev.bind (end_refl en hl) (Ev.now _))))))))))
  exact key.rounds
end Go.Proofs.YtlegjcagkmjfjaaDoor.Pure
