/- The pure statement of the law TreeChecks, proved. No conditions. -/
import Derived.Test.YtagpbgabcenodaaLTreeChecksTree
namespace Go.Proofs.Ytagpbgabcenodaa.Pure
open Go.RowKit Go.Proofs.YtagpbgabcenodaaW.PrintWords Go.Proofs.Ytagpbgabcenodaa.Opn Go.Proofs.Ytagpbgabcenodaa.PB Go.Proofs.Ytagpbgabcenodaa.STreeChecks Go.Proofs.Ytagpbgabcenodaa.Aid Go.Proofs.Ytagpbgabcenodaa.LTreeChecks
set_option linter.unusedVariables false
set_option linter.unusedSimpArgs false

section
variable (c : Int) (up lf : List Int) (hu : up.length ≤ 17592186044416) (hf : lf.length ≤ 17592186044416)
include hu hf
theorem kidsof_ev (b : Int) : Ev (fun k => maskref4_KidsOf.f k c up lf b) (ids up b up.length, ids lf b lf.length) := by
  unfold maskref4_KidsOf.f
  refine down (P := fun i => Ev (fun k => maskref4_KidsOf.l0 k b (ids up b i) (up.length : Int) (i : Int) c up lf) (ids up b up.length, ids lf b lf.length)) up.length ?_ ?_ 0 (by omega)
  · refine Ev.step (fun k => by rw [maskref4_KidsOf.l0]) (Ev.neg (by omega) ?_)
    refine down (P := fun i => Ev (fun k => maskref4_KidsOf.l1 k b (ids up b up.length) (ids lf b i) (lf.length : Int) (i : Int) c up lf) (ids up b up.length, ids lf b lf.length)) lf.length ?_ ?_ 0 (by omega)
    · exact Ev.step (fun k => by rw [maskref4_KidsOf.l1]) (Ev.neg (by omega) (Ev.now _))
    · intro i hi ih
      have hl := ids_le lf b i
      rw [ids_succ] at ih
      by_cases h : rd lf (i : Int) = b
      · rw [if_pos h] at ih
        refine Ev.step (fun k => by rw [maskref4_KidsOf.l1]) (Ev.pos (by omega) (Ev.pos (by omega) (Ev.pos (by omega) (Ev.pos h (Ev.pos (by omega) ?_)))))
        rw [ws hi (by omega)]
        exact ih
      · rw [if_neg h] at ih
        refine Ev.step (fun k => by rw [maskref4_KidsOf.l1]) (Ev.pos (by omega) (Ev.pos (by omega) (Ev.pos (by omega) (Ev.neg h ?_))))
        rw [ws hi (by omega)]
        exact ih
  · intro i hi ih
    have hl := ids_le up b i
    rw [ids_succ] at ih
    by_cases h : rd up (i : Int) = b
    · rw [if_pos h] at ih
      refine Ev.step (fun k => by rw [maskref4_KidsOf.l0]) (Ev.pos (by omega) (Ev.pos (by omega) (Ev.pos (by omega) (Ev.pos h (Ev.pos (by omega) ?_)))))
      rw [ws hi (by omega)]
      exact ih
    · rw [if_neg h] at ih
      refine Ev.step (fun k => by rw [maskref4_KidsOf.l0]) (Ev.pos (by omega) (Ev.pos (by omega) (Ev.pos (by omega) (Ev.neg h ?_))))
      rw [ws hi (by omega)]
      exact ih
end
theorem eq_ev (l : List Int) (hl : l.length ≤ 9223372036854775807) : Ev (fun k => slices_Equal_int_int.f k l l) true := by
  unfold slices_Equal_int_int.f
  refine Ev.pos rfl ?_
  refine down (P := fun i => Ev (fun k => slices_Equal_int_int.l0 k l l (l.length : Int) (i : Int)) true) l.length ?_ ?_ 0 (by omega)
  · exact Ev.step (fun k => by rw [slices_Equal_int_int.l0]) (Ev.neg (by omega) (Ev.now _))
  · intro i hi ih
    refine Ev.step (fun k => by rw [slices_Equal_int_int.l0]) (Ev.pos (by omega) (Ev.pos (by omega) (Ev.pos (by omega) (Ev.pos (by omega) (Ev.pos rfl ?_)))))
    rw [ws hi hl]
    exact ih

theorem depth_l0 (c : Int) (up lf : List Int) : ∀ (d : Nat) (b n : Int), b < (d : Int) → Both (fun k => tree_Depth.l0 k n b c up lf) (fun k => maskref4_DepthOf.l0 k n b c up lf) := by
  intro d
  induction d with
  | zero =>
    intro b n hb
    refine Both.step (fun k => by rw [tree_Depth.l0]) (fun k => by rw [maskref4_DepthOf.l0]) (Both.neg (by omega) ?_)
    by_cases h : b < -1
    · exact Both.posl h (Both.negr (by omega) (Both.now _))
    · exact Both.negl h (Both.posr (by omega) (Both.now _))
  | succ d ih =>
    intro b n hb
    refine Both.step (fun k => by rw [tree_Depth.l0]) (fun k => by rw [maskref4_DepthOf.l0]) ?_
    by_cases h0 : b ≥ 0
    · refine Both.pos h0 ?_
      by_cases h1 : b ≥ (up.length : Int)
      · exact Both.pos h1 (Both.now _)
      · refine Both.neg h1 (Both.pos h0 (Both.pos (by omega) ?_))
        by_cases h2 : rd up b ≥ b
        · exact Both.pos h2 (Both.now _)
        · exact Both.neg h2 (ih _ _ (by omega))
    · refine Both.neg h0 ?_
      by_cases h : b < -1
      · exact Both.posl h (Both.negr (by omega) (Both.now _))
      · exact Both.negl h (Both.posr (by omega) (Both.now _))
theorem depth_same (c : Int) (up lf : List Int) (hf : lf.length ≤ 9223372036854775807) (a : Int) : Both (fun k => tree_Depth.f k c up lf a) (fun k => maskref4_DepthOf.f k c up lf a) := by
  unfold tree_Depth.f maskref4_DepthOf.f
  rw [in_eq, w64 (x := (lf.length : Int) - 1) (by omega) (by omega)]
  simp only [Option.bind_some]
  have jt : Ev (fun k => tree_Depth.j0 k a true c up lf) (-1) := Ev.step (fun k => by rw [tree_Depth.j0]) (Ev.pos rfl (Ev.now _))
  by_cases h0 : a < 0
  · exact Both.posl h0 (Both.negr (by simp; omega) ⟨-1, jt, Ev.now _, trivial⟩)
  · refine Both.negl h0 ?_
    by_cases h1 : a ≥ (lf.length : Int)
    · rw [decide_eq_true h1]
      exact Both.negr (by simp; omega) ⟨-1, jt, Ev.now _, trivial⟩
    · rw [decide_eq_false h1]
      refine Both.posr (by simp; omega) (Both.posr (by omega) (Both.posr (by omega) (Both.stepl (fun k => by rw [tree_Depth.j0]) (Both.negl (by simp) (Both.posl (by omega) (Both.posl (by omega) ?_))))))
      exact depth_l0 c up lf ((rd lf a).toNat + 1) _ _ (by omega)

theorem TreeChecks : STreeChecks.Pure := by
  intro c up lf n l b leaf gc gu gf gn gl gb gleaf
  have hu : up.length ≤ 17592186044416 := by have := gu.1; omega
  have hf : lf.length ≤ 17592186044416 := by have := gf.1; omega
  have hl : l.length ≤ 9223372036854775807 := gl.2.1
  obtain ⟨r, e1, e2, _⟩ := tree_same c up lf n l
  obtain ⟨d, d1, d2, _⟩ := depth_same c up lf (by omega) leaf
  have k1 := kids_ev c up lf hu hf b
  have k2 := kidsof_ev c up lf hu hf b
  refine Ev.rounds (g := fun k => masklaw4_TreeChecks.f k c up lf n l b leaf) ?_
  unfold masklaw4_TreeChecks.f
  refine Ev.val (a := masklaw4_trees.f) rfl (Ev.pos rfl (Ev.bind e1 (Ev.bind e2 (Ev.pos rfl (Ev.bind d1 (Ev.bind d2 ?_))))))
  rw [show (d != d) = false by simp]
  refine Ev.step (fun k => by rw [masklaw4_TreeChecks.j0]) (Ev.neg (by simp) ?_)
  refine down (P := fun i => Ev (fun k => masklaw4_TreeChecks.l0 k b l (l.length : Int) (i : Int) c up lf) true) l.length ?_ ?_ 0 (by omega)
  · refine Ev.step (fun k => by rw [masklaw4_TreeChecks.l0]) (Ev.neg (by omega) (Ev.bind k1 (Ev.bind k2 (Ev.bind (eq_ev _ ?_) (Ev.pos rfl (Ev.bind (eq_ev _ ?_) (Ev.now _)))))))
    · have := ids_le up b up.length
      simp only []
      omega
    · have := ids_le lf b lf.length
      simp only []
      omega
  · intro i hi ih
    refine Ev.step (fun k => by rw [masklaw4_TreeChecks.l0]) (Ev.pos (by omega) (Ev.pos (by omega) (Ev.pos (by omega) ?_)))
    rw [isb_eq, passes_eq]
    refine Ev.val rfl (Ev.val rfl (Ev.neg (by simp) ?_))
    rw [ws hi hl]
    exact ih

end Go.Proofs.Ytagpbgabcenodaa.Pure
