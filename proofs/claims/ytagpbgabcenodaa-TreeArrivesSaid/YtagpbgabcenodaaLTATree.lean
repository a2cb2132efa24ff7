/- What the check of a clock tree answers, by the program and by the reference: the same, and what a valid tree is; the buffers and flip-flops that a buffer drives. No conditions. -/
import Derived.Test.YtagpbgabcenodaaLTALib
import Derived.Test.YtagpbgabcenodaaPBx15
import Derived.Test.YtagpbgabcenodaaPBx16
import Derived.Test.YtagpbgabcenodaaPBx17
import Derived.Test.YtagpbgabcenodaaPBx18
import Derived.Test.YtagpbgabcenodaaPBx6
import Derived.Test.YtagpbgabcenodaaPBx7
import Derived.Test.YtagpbgabcenodaaOpn
-- NEEDS tree_Check maskref4_TreeFault tree_Kids tree_IsBuffer maskref4_Passes maskref4_In
set_option linter.unusedVariables false
namespace Go.Proofs.Ytagpbgabcenodaa.LTA
open Go.RowKit Go.Proofs.YtagpbgabcenodaaW.PrintWords Go.Proofs.Ytagpbgabcenodaa.Opn Go.Proofs.Ytagpbgabcenodaa.PB Go.Proofs.Ytagpbgabcenodaa.Aid

/-- The places below n where a list has a number. -/
def ids (l : List Int) (b : Int) (n : Nat) : List Int := ((List.range n).filter (fun i : Nat => rd l (i : Int) == b)).map (fun i : Nat => (i : Int))
theorem ids_zero (l : List Int) (b : Int) : ids l b 0 = [] := rfl
theorem ids_succ (l : List Int) (b : Int) (n : Nat) : ids l b (n + 1) = if rd l (n : Int) = b then ids l b n ++ [(n : Int)] else ids l b n := by
  unfold ids
  rw [List.range_succ, List.filter_append, List.map_append]
  by_cases h : rd l (n : Int) = b
  · simp [h]
  · simp [h]
theorem ids_le (l : List Int) (b : Int) (n : Nat) : (ids l b n).length ≤ n := by
  unfold ids
  rw [List.length_map]
  exact Nat.le_trans (List.length_filter_le _ _) (by simp)

section
variable (c : Int) (up lf : List Int) (hu : up.length ≤ 17592186044416) (hf : lf.length ≤ 17592186044416)
include hu hf
theorem kids_ev (b : Int) : Ev (fun k => tree_Kids.f k c up lf b) (ids up b up.length, ids lf b lf.length) := by
  unfold tree_Kids.f
  refine down (P := fun i => Ev (fun k => tree_Kids.l0 k b (ids up b i) up (up.length : Int) (i : Int) c up lf) (ids up b up.length, ids lf b lf.length)) up.length ?_ ?_ 0 (by omega)
  · refine Ev.step (fun k => by rw [tree_Kids.l0]) (Ev.neg (by omega) ?_)
    refine down (P := fun i => Ev (fun k => tree_Kids.l1 k b (ids up b up.length) (ids lf b i) lf (lf.length : Int) (i : Int)) (ids up b up.length, ids lf b lf.length)) lf.length ?_ ?_ 0 (by omega)
    · exact Ev.step (fun k => by rw [tree_Kids.l1]) (Ev.neg (by omega) (Ev.now _))
    · intro i hi ih
      have hl := ids_le lf b i
      rw [ids_succ] at ih
      by_cases h : rd lf (i : Int) = b
      · rw [if_pos h] at ih
        refine Ev.step (fun k => by rw [tree_Kids.l1]) (Ev.pos (by omega) (Ev.pos (by omega) (Ev.pos (by omega) (Ev.pos h (Ev.pos (by omega) ?_)))))
        rw [ws hi (by omega)]
        exact ih
      · rw [if_neg h] at ih
        refine Ev.step (fun k => by rw [tree_Kids.l1]) (Ev.pos (by omega) (Ev.pos (by omega) (Ev.pos (by omega) (Ev.neg h ?_))))
        rw [ws hi (by omega)]
        exact ih
  · intro i hi ih
    have hl := ids_le up b i
    rw [ids_succ] at ih
    by_cases h : rd up (i : Int) = b
    · rw [if_pos h] at ih
      refine Ev.step (fun k => by rw [tree_Kids.l0]) (Ev.pos (by omega) (Ev.pos (by omega) (Ev.pos (by omega) (Ev.pos h (Ev.pos (by omega) ?_)))))
      rw [ws hi (by omega)]
      exact ih
    · rw [if_neg h] at ih
      refine Ev.step (fun k => by rw [tree_Kids.l0]) (Ev.pos (by omega) (Ev.pos (by omega) (Ev.pos (by omega) (Ev.neg h ?_))))
      rw [ws hi (by omega)]
      exact ih
end

/-- How often each buffer is named. -/
def DD (n : Nat) (d : List Int) (c : Int → Nat) : Prop := d.length = n + 1 ∧ ∀ j : Nat, j ≤ n → rd d (j : Int) = (c ((j : Int) - 1) : Int)
theorem dd_congr {n : Nat} {d : List Int} {c c' : Int → Nat} (h : DD n d c) (e : ∀ v, c v = c' v) : DD n d c' := ⟨h.1, fun j hj => by rw [h.2 j hj, e]⟩
theorem dd_set {n : Nat} {d : List Int} {c : Int → Nat} (h : DD n d c) (hn : n ≤ 64) (u : Int) (h0 : -1 ≤ u) (h1 : u < n) (hc : c u ≤ 4611686018427387904) :
    DD n (d.set (wrap64 (u + 1) : Int).toNat (wrap64 (rd d (wrap64 (u + 1)) + 1))) (fun v => c v + if u = v then 1 else 0) := by
  obtain ⟨hl, hr⟩ := h
  have e : Aside0 (wrap64 (u + 1) = u + 1) := ⟨w64 (by omega) (by omega)⟩
  obtain ⟨j, hj⟩ : ∃ j : Nat, u + 1 = (j : Int) := ⟨(u + 1).toNat, by omega⟩
  rw [e.out, hj, Int.toNat_natCast]
  have h2 := hr j (by omega)
  rw [show (j : Int) - 1 = u by omega] at h2
  rw [h2, w64 (by omega) (by omega)]
  refine ⟨by rw [List.length_set, hl], fun i hi => ?_⟩
  unfold rd
  rw [Int.toNat_natCast, List.getD_eq_getElem?_getD, List.getElem?_set]
  by_cases hij : j = i
  · subst hij
    rw [if_pos rfl, if_pos (by omega)]
    have : u = (j : Int) - 1 := by omega
    simp [this]
  · rw [if_neg hij, ← List.getD_eq_getElem?_getD]
    have := hr i hi
    unfold rd at this
    rw [Int.toNat_natCast] at this
    rw [this]
    have : ¬ u = (i : Int) - 1 := by omega
    simp [this]
theorem ids_len (l : List Int) (b : Int) (n : Nat) : (ids l b (n + 1)).length = (ids l b n).length + if rd l (n : Int) = b then 1 else 0 := by
  rw [ids_succ]
  split <;> simp

theorem in_eq (n a b : Int) : maskref4_In.f n a b = some (decide (a ≤ n ∧ n ≤ b)) := by
  unfold maskref4_In.f
  by_cases h : a ≤ n
  · rw [if_pos h]
    simp [h]
  · rw [if_neg h]
    simp [h]
section
variable (c : Int) (up lf : List Int) (hu : up.length ≤ 64) (hf : lf.length ≤ 288)
include hu hf
theorem drives_same : ∀ j, j ≤ up.length + 1 → ∃ r, Ev (fun k => tree_Check.l2 k ((j : Int) - 1) c up lf) r ∧ ∀ d, DD up.length d (fun v => (ids up v up.length).length + (ids lf v lf.length).length) → Ev (fun k => maskref4_TreeFault.l2 k d (d.length : Int) (j : Int)) r := by
  refine down (up.length + 1) ?_ ?_
  · refine ⟨0, Ev.step (fun k => by rw [tree_Check.l2]) (Ev.neg (by omega) (Ev.now _)), fun d hd => ?_⟩
    exact Ev.step (fun k => by rw [maskref4_TreeFault.l2]) (Ev.neg (by rw [hd.1]; omega) (Ev.now _))
  · intro j hj ih
    obtain ⟨r, h1, h2⟩ := ih
    have l1 := ids_le up ((j : Int) - 1) up.length
    have l2 := ids_le lf ((j : Int) - 1) lf.length
    have kk := kids_ev c up lf (by omega) (by omega) ((j : Int) - 1)
    have ew : Aside0 (wrap64 (((ids up ((j : Int) - 1) up.length).length : Int) + ((ids lf ((j : Int) - 1) lf.length).length : Int)) = ((ids up ((j : Int) - 1) up.length).length : Int) + ((ids lf ((j : Int) - 1) lf.length).length : Int)) := ⟨w64 (by omega) (by omega)⟩
    have en : Aside0 (wrap64 ((j : Int) - 1 + 1) = ((j + 1 : Nat) : Int) - 1) := ⟨by rw [w64 (by omega) (by omega)]; omega⟩
    have em : Aside0 (wrap64 ((j : Int) + 1) = ((j + 1 : Nat) : Int)) := ⟨by rw [w64 (by omega) (by omega)]; omega⟩
    have hq : ∀ d, DD up.length d (fun v => (ids up v up.length).length + (ids lf v lf.length).length) → rd d (j : Int) = (((ids up ((j : Int) - 1) up.length).length + (ids lf ((j : Int) - 1) lf.length).length : Nat) : Int) := fun d hd => hd.2 j (by omega)
    by_cases g1 : ((ids up ((j : Int) - 1) up.length).length : Int) + ((ids lf ((j : Int) - 1) lf.length).length : Int) > 8
    · refine ⟨14, ?_, fun d hd => ?_⟩
      · refine Ev.step (fun k => by rw [tree_Check.l2]) (Ev.pos (by omega) (Ev.bind kk ?_))
        simp only []
        rw [ew.out]
        exact Ev.pos g1 (Ev.now _)
      · refine Ev.step (fun k => by rw [maskref4_TreeFault.l2]) (Ev.pos (by rw [hd.1]; omega) (Ev.pos (by omega) (Ev.pos (by rw [hd.1]; omega) ?_)))
        rw [hq d hd]
        exact Ev.pos (by omega) (Ev.now _)
    · by_cases g2 : ((ids up ((j : Int) - 1) up.length).length : Int) + ((ids lf ((j : Int) - 1) lf.length).length : Int) = 0
      · by_cases g3 : 0 < j
        · refine ⟨18, ?_, fun d hd => ?_⟩
          · refine Ev.step (fun k => by rw [tree_Check.l2]) (Ev.pos (by omega) (Ev.bind kk ?_))
            simp only []
            rw [ew.out]
            exact Ev.neg g1 (Ev.pos g2 (Ev.pos (by omega) (Ev.now _)))
          · refine Ev.step (fun k => by rw [maskref4_TreeFault.l2]) (Ev.pos (by rw [hd.1]; omega) (Ev.pos (by omega) (Ev.pos (by rw [hd.1]; omega) ?_)))
            rw [hq d hd]
            exact Ev.neg (by omega) (Ev.pos (by omega) (Ev.pos (by omega) (Ev.now _)))
        · refine ⟨r, ?_, fun d hd => ?_⟩
          · refine Ev.step (fun k => by rw [tree_Check.l2]) (Ev.pos (by omega) (Ev.bind kk ?_))
            simp only []
            rw [ew.out, en.out]
            exact Ev.neg g1 (Ev.pos g2 (Ev.neg (by omega) h1))
          · refine Ev.step (fun k => by rw [maskref4_TreeFault.l2]) (Ev.pos (by rw [hd.1]; omega) (Ev.pos (by omega) (Ev.pos (by rw [hd.1]; omega) ?_)))
            rw [hq d hd, em.out]
            exact Ev.neg (by omega) (Ev.pos (by omega) (Ev.neg (by omega) (h2 d hd)))
      · refine ⟨r, ?_, fun d hd => ?_⟩
        · refine Ev.step (fun k => by rw [tree_Check.l2]) (Ev.pos (by omega) (Ev.bind kk ?_))
          simp only []
          rw [ew.out, en.out]
          exact Ev.neg g1 (Ev.neg g2 h1)
        · refine Ev.step (fun k => by rw [maskref4_TreeFault.l2]) (Ev.pos (by rw [hd.1]; omega) (Ev.pos (by omega) (Ev.pos (by rw [hd.1]; omega) ?_)))
          rw [hq d hd, em.out]
          exact Ev.neg (by omega) (Ev.neg (by omega) (h2 d hd))

theorem leaves_same : ∀ i, i ≤ lf.length → ∃ r, Ev (fun k => tree_Check.l1 k lf (lf.length : Int) (i : Int) c up lf) r ∧ (∀ d, DD up.length d (fun v => (ids up v up.length).length + (ids lf v i).length) → Ev (fun k => maskref4_TreeFault.l1 k (up.length : Int) d lf (lf.length : Int) (i : Int)) r) ∧ (r = 0 → ∀ j : Nat, i ≤ j → j < lf.length → -1 ≤ rd lf (j : Int) ∧ rd lf (j : Int) < up.length) := by
  refine down lf.length ?_ ?_
  · obtain ⟨r, h1, h2⟩ := drives_same c up lf hu hf 0 (by omega)
    replace h1 : Ev (fun k => tree_Check.l2 k (-1) c up lf) r := h1
    replace h2 : ∀ d, DD up.length d (fun v => (ids up v up.length).length + (ids lf v lf.length).length) → Ev (fun k => maskref4_TreeFault.l2 k d (d.length : Int) 0) r := h2
    refine ⟨r, Ev.step (fun k => by rw [tree_Check.l1]) (Ev.neg (by omega) h1), fun d hd => ?_, fun _ j j1 j2 => by omega⟩
    exact Ev.step (fun k => by rw [maskref4_TreeFault.l1]) (Ev.neg (by omega) (h2 d hd))
  · intro i hi ih
    obtain ⟨r, h1, h2, h3⟩ := ih
    have ew : Aside0 (wrap64 ((up.length : Int) - 1) = (up.length : Int) - 1) := ⟨w64 (by omega) (by omega)⟩
    have ei : Aside0 (wrap64 ((i : Int) + 1) = ((i + 1 : Nat) : Int)) := ⟨ws hi (by omega)⟩
    by_cases g : -1 ≤ rd lf (i : Int) ∧ rd lf (i : Int) < up.length
    · refine ⟨r, ?_, fun d hd => ?_, fun h0 j j1 j2 => if e : j = i then e ▸ g else h3 h0 j (by omega) j2⟩
      · refine Ev.step (fun k => by rw [tree_Check.l1]) (Ev.pos (by omega) (Ev.pos (by omega) (Ev.pos (by omega) (Ev.neg (by omega) (Ev.neg (by omega) ?_)))))
        rw [ei.out]
        exact h1
      · have e1 : Aside0 (wrap64 (rd lf (i : Int) + 1) = rd lf (i : Int) + 1) := ⟨w64 (by omega) (by omega)⟩
        have b1 := ids_le up (rd lf (i : Int)) up.length
        have b2 := ids_le lf (rd lf (i : Int)) i
        refine Ev.step (fun k => by rw [maskref4_TreeFault.l1]) (Ev.pos (by omega) (Ev.pos (by omega) (Ev.pos (by omega) ?_)))
        rw [in_eq, ew.out]
        refine Ev.val rfl (Ev.pos (decide_eq_true ⟨g.1, by omega⟩) (Ev.pos (by rw [e1.out]; omega) (Ev.pos (by rw [e1.out, hd.1]; omega) ?_)))
        rw [ei.out]
        refine h2 _ (dd_congr (dd_set hd hu _ g.1 g.2 (by omega)) (fun v => ?_))
        rw [ids_len]
        omega
    · refine ⟨7, ?_, fun d hd => ?_, by omega⟩
      · refine Ev.step (fun k => by rw [tree_Check.l1]) (Ev.pos (by omega) (Ev.pos (by omega) (Ev.pos (by omega) ?_)))
        by_cases g1 : rd lf (i : Int) < -1
        · exact Ev.pos g1 (Ev.now _)
        · exact Ev.neg g1 (Ev.pos (by omega) (Ev.now _))
      · refine Ev.step (fun k => by rw [maskref4_TreeFault.l1]) (Ev.pos (by omega) (Ev.pos (by omega) (Ev.pos (by omega) ?_)))
        rw [in_eq, ew.out]
        exact Ev.val rfl (Ev.neg (by simp; omega) (Ev.now _))

theorem ups_same : ∀ i, i ≤ up.length → ∃ r, Ev (fun k => tree_Check.l0 k up (up.length : Int) (i : Int) c up lf) r ∧ (∀ d, DD up.length d (fun v => (ids up v i).length) → Ev (fun k => maskref4_TreeFault.l0 k (up.length : Int) d up (up.length : Int) (i : Int) c up lf) r) ∧ (r = 0 → (∀ j : Nat, i ≤ j → j < up.length → -1 ≤ rd up (j : Int) ∧ rd up (j : Int) < j) ∧ ∀ j : Nat, j < lf.length → -1 ≤ rd lf (j : Int) ∧ rd lf (j : Int) < up.length) := by
  refine down up.length ?_ ?_
  · obtain ⟨r, h1, h2, h3⟩ := leaves_same c up lf hu hf 0 (by omega)
    replace h1 : Ev (fun k => tree_Check.l1 k lf (lf.length : Int) 0 c up lf) r := h1
    replace h2 : ∀ d, DD up.length d (fun v => (ids up v up.length).length + (ids lf v 0).length) → Ev (fun k => maskref4_TreeFault.l1 k (up.length : Int) d lf (lf.length : Int) 0) r := h2
    refine ⟨r, Ev.step (fun k => by rw [tree_Check.l0]) (Ev.neg (by omega) h1), fun d hd => ?_, fun h0 => ⟨fun j j1 j2 => by omega, fun j hj => h3 h0 j (Nat.zero_le _) hj⟩⟩
    exact Ev.step (fun k => by rw [maskref4_TreeFault.l0]) (Ev.neg (by omega) (h2 d (dd_congr hd (fun v => by rw [ids_zero]; simp))))
  · intro i hi ih
    obtain ⟨r, h1, h2, h3⟩ := ih
    have ew : Aside0 (wrap64 ((i : Int) - 1) = (i : Int) - 1) := ⟨w64 (by omega) (by omega)⟩
    have ei : Aside0 (wrap64 ((i : Int) + 1) = ((i + 1 : Nat) : Int)) := ⟨ws hi (by omega)⟩
    by_cases g : -1 ≤ rd up (i : Int) ∧ rd up (i : Int) < i
    · refine ⟨r, ?_, fun d hd => ?_, fun h0 => ⟨fun j j1 j2 => if e : j = i then e ▸ g else (h3 h0).1 j (by omega) j2, (h3 h0).2⟩⟩
      · refine Ev.step (fun k => by rw [tree_Check.l0]) (Ev.pos (by omega) (Ev.pos (by omega) (Ev.pos (by omega) (Ev.neg (by omega) (Ev.neg (by omega) ?_)))))
        rw [ei.out]
        exact h1
      · have e1 : Aside0 (wrap64 (rd up (i : Int) + 1) = rd up (i : Int) + 1) := ⟨w64 (by omega) (by omega)⟩
        have b2 := ids_le up (rd up (i : Int)) i
        refine Ev.step (fun k => by rw [maskref4_TreeFault.l0]) (Ev.pos (by omega) (Ev.pos (by omega) (Ev.pos (by omega) ?_)))
        rw [in_eq, ew.out]
        refine Ev.val rfl (Ev.pos (decide_eq_true ⟨g.1, by omega⟩) (Ev.pos (by rw [e1.out]; omega) (Ev.pos (by rw [e1.out, hd.1]; omega) ?_)))
        rw [ei.out]
        refine h2 _ (dd_congr (dd_set hd hu _ g.1 (by omega) (by omega)) (fun v => ?_))
        rw [ids_len]
    · refine ⟨5, ?_, fun d hd => ?_, by omega⟩
      · refine Ev.step (fun k => by rw [tree_Check.l0]) (Ev.pos (by omega) (Ev.pos (by omega) (Ev.pos (by omega) ?_)))
        by_cases g1 : rd up (i : Int) < -1
        · exact Ev.pos g1 (Ev.now _)
        · exact Ev.neg g1 (Ev.pos (by omega) (Ev.now _))
      · refine Ev.step (fun k => by rw [maskref4_TreeFault.l0]) (Ev.pos (by omega) (Ev.pos (by omega) (Ev.pos (by omega) ?_)))
        rw [in_eq, ew.out]
        exact Ev.val rfl (Ev.neg (by simp; omega) (Ev.now _))
end

/-- A buffer. -/
def isb (x : Cel) : Bool := !x.f1 && (decide (x.f2 = 1) && x.f3 == 2)
theorem isb_eq (x : Cel) : tree_IsBuffer.f x.f0 x.f1 x.f2 x.f3 x.f4 x.f5 x.f6 x.f7 x.f8 x.f9 x.f10 = some (isb x) := by
  unfold tree_IsBuffer.f isb
  cases x.f1 <;> by_cases h : x.f2 = 1 <;> simp [h]
theorem passes_eq (x : Cel) : maskref4_Passes.f x.f0 x.f1 x.f2 x.f3 x.f4 x.f5 x.f6 x.f7 x.f8 x.f9 x.f10 = some (isb x) := by
  unfold maskref4_Passes.f isb
  cases x.f1 <;> by_cases h : x.f2 = 1 <;> by_cases h' : x.f3 = 2 <;> simp [h, h']

/-- A valid tree. -/
def VT (c : Int) (up lf : List Int) (n : Int) (l : List Cel) : Prop := up.length ≤ 64 ∧ lf.length ≤ 288 ∧ (lf.length : Int) = n ∧ (0 < up.length → 0 ≤ c ∧ c < l.length ∧ isb (rd_T32 l c) = true) ∧ (∀ j : Nat, j < up.length → -1 ≤ rd up (j : Int) ∧ rd up (j : Int) < j) ∧ (∀ j : Nat, j < lf.length → -1 ≤ rd lf (j : Int) ∧ rd lf (j : Int) < up.length) ∧ l.length ≤ 64 ∧ ∀ i : Nat, i < l.length → GCell (rd_T32 l (i : Int))

theorem tree_same (c : Int) (up lf : List Int) (n : Int) (l : List Cel) : Two (fun r => r = 0 → VT c up lf n l) (fun k => tree_Check.f k c up lf n l) (fun k => maskref4_TreeFault.f k c up lf n l) := by
  obtain ⟨e0, le, lq⟩ := lib_tot l
  unfold tree_Check.f maskref4_TreeFault.f
  refine Both.bindl le (Both.bindr le ?_)
  by_cases h0 : e0 = 0
  · refine Both.pos h0 ?_
    obtain ⟨g1, g2⟩ := lq h0
    have jt : ∀ x, Two (fun r => r = 0 → VT c up lf n l) (fun k => tree_Check.j0 k n l true c up lf) (fun k => maskref4_TreeFault.j0 k n l x true c up lf) := fun x =>
      Both.step (fun k => by rw [tree_Check.j0]) (fun k => by rw [maskref4_TreeFault.j0]) (Both.pos rfl (Two.now _ (by omega)))
    by_cases h1 : (up.length : Int) > 64
    · exact Both.pos h1 (jt _)
    · refine Both.neg h1 ?_
      by_cases h2 : (lf.length : Int) > 288
      · rw [decide_eq_true h2]; exact jt _
      · rw [decide_eq_false h2]
        refine Both.step (fun k => by rw [tree_Check.j0]) (fun k => by rw [maskref4_TreeFault.j0]) (Both.neg (by simp) ?_)
        by_cases h3 : (lf.length : Int) = n
        · refine Both.pos h3 ?_
          have ew : Aside0 (wrap64 ((l.length : Int) - 1) = (l.length : Int) - 1) := ⟨w64 (by omega) (by omega)⟩
          -- the range error
          have bad1 : Ev (fun k => tree_Check.j2 k l true c up lf) 2 := Ev.step (fun k => by rw [tree_Check.j2]) (Ev.pos rfl (Ev.now _))
          have bad2 : Ev (fun k => maskref4_TreeFault.j1 k l (up.length : Int) true c up lf) 2 := Ev.step (fun k => by rw [maskref4_TreeFault.j1]) (Ev.pos rfl (Ev.now _))
          -- behind the tests
          have good : ((0 < up.length → 0 ≤ c ∧ c < l.length)) → Two (fun r => r = 0 → VT c up lf n l) (fun k => tree_Check.j2 k l false c up lf) (fun k => maskref4_TreeFault.j1 k l (up.length : Int) false c up lf) := by
            intro hc
            obtain ⟨r, r1, r2, r3⟩ := ups_same c up lf (by omega) (by omega) 0 (by omega)
            have e1 : Aside0 (wrap64 ((up.length : Int) + 1) = ((up.length + 1 : Nat) : Int)) := ⟨by rw [w64 (by omega) (by omega)]; omega⟩
            replace r1 : Ev (fun k => tree_Check.l0 k up (up.length : Int) 0 c up lf) r := r1
            replace r2 : ∀ d, DD up.length d (fun v => (ids up v 0).length) → Ev (fun k => maskref4_TreeFault.l0 k (up.length : Int) d up (up.length : Int) 0 c up lf) r := r2
            have fin : (0 < up.length → 0 ≤ c ∧ c < l.length ∧ isb (rd_T32 l c) = true) → Two (fun r => r = 0 → VT c up lf n l) (fun k => tree_Check.j3 k c up lf) (fun k => maskref4_TreeFault.j2 k (up.length : Int) c up lf) := by
              intro hc'
              refine ⟨r, Ev.step (fun k => by rw [tree_Check.j3]) r1, Ev.step (fun k => by rw [maskref4_TreeFault.j2]) ?_, fun hr => ?_⟩
              · rw [e1.out]
                refine Ev.pos (by omega) (Ev.pos (by omega) (r2 _ ⟨by simp, fun j hj => ?_⟩))
                show rd _ _ = (((ids up ((j : Int) - 1) 0).length : Nat) : Int)
                rw [ids_zero]
                unfold rd
                rw [Int.toNat_natCast, List.getD_eq_getElem?_getD, List.getElem?_replicate]
                split <;> rfl
              · exact ⟨by omega, by omega, h3, hc', fun j hj => (r3 hr).1 j (Nat.zero_le _) hj, (r3 hr).2, g1, g2⟩
            refine Both.step (fun k => by rw [tree_Check.j2]) (fun k => by rw [maskref4_TreeFault.j1]) (Both.neg (by simp) ?_)
            by_cases h5 : (up.length : Int) > 0
            · obtain ⟨c0, c1⟩ := hc (by omega)
              refine Both.pos h5 (Both.pos c0 (Both.pos c1 ?_))
              rw [isb_eq, passes_eq]
              simp only [Option.bind_some]
              by_cases h6 : isb (rd_T32 l c) = true
              · exact Both.pos h6 (fin (fun _ => ⟨c0, c1, h6⟩))
              · exact Both.neg h6 (Two.now _ (by omega))
            · exact Both.neg h5 (fin (fun h => by omega))
          by_cases h4 : (up.length : Int) = 0
          · refine Both.pos h4 ?_
            by_cases h5 : c = 0
            · subst h5
              refine Both.posr rfl (Both.negr (by omega) (Both.stepl (fun k => by rw [tree_Check.j1]) (Both.negl (by simp) (Both.negl (by omega) (Both.negl (by omega) ?_)))))
              exact good (fun h => by omega)
            · rw [show (c != 0) = true by simpa using h5]
              refine Both.negr h5 (Both.stepl (fun k => by rw [tree_Check.j1]) (Both.posl rfl ?_))
              exact ⟨2, bad1, bad2, by omega⟩
          · refine Both.neg h4 (Both.posr (by omega) ?_)
            rw [in_eq, ew.out]
            simp only [Option.bind_some]
            refine Both.stepl (fun k => by rw [tree_Check.j1]) (Both.negl (by simp) ?_)
            by_cases h5 : c < 0
            · refine Both.posl h5 ?_
              rw [decide_eq_true h5, decide_eq_false (by omega)]
              exact ⟨2, bad1, bad2, by omega⟩
            · refine Both.negl h5 (Both.posl (by omega) ?_)
              by_cases h6 : c ≥ (l.length : Int)
              · rw [decide_eq_true h6, decide_eq_false (by omega)]
                exact ⟨2, bad1, bad2, by omega⟩
              · rw [decide_eq_false h6, decide_eq_true (by omega)]
                exact good (fun _ => ⟨by omega, by omega⟩)
        · exact Both.neg h3 (Two.now _ (by omega))
  · exact Both.neg h0 (Two.now _ (fun h => absurd h h0))

end Go.Proofs.Ytagpbgabcenodaa.LTA
