/- The arrivals at the flip-flops over a clock tree, and the loads of its buffers: the program's and the reference's come to the same. No conditions. -/
import Derived.Test.YtagpbgabcenodaaLTATree
import Derived.Test.YtagpbgabcenodaaPBx23
import Derived.Test.YtagpbgabcenodaaPBx24
import Derived.Test.YtagpbgabcenodaaPBx27
import Derived.Test.YtagpbgabcenodaaPBx28
import Derived.Test.YtagpbgabcenodaaOpn
-- NEEDS tree_Load tree_Arrivals maskref4_LoadOf maskref4_Reaches
set_option linter.unusedVariables false
namespace Go.Proofs.Ytagpbgabcenodaa.LTA
open Go.RowKit Go.Proofs.YtagpbgabcenodaaW.PrintWords Go.Proofs.Ytagpbgabcenodaa.Opn Go.Proofs.Ytagpbgabcenodaa.PB Go.Proofs.Ytagpbgabcenodaa.Aid

abbrev Win := S45
def foldW (g : Int → Int) (xs : List Int) (a : Int) : Int := xs.foldl (fun x i => wrap64 (x + g i)) a
theorem foldW_snoc (g : Int → Int) (xs : List Int) (a i : Int) : foldW g (xs ++ [i]) a = wrap64 (foldW g xs a + g i) := by
  unfold foldW
  rw [List.foldl_append]
  rfl
theorem take_rd {xs : List Int} {j : Nat} (h : j < xs.length) : xs.take (j + 1) = xs.take j ++ [rd xs (j : Int)] := by
  rw [List.take_succ_eq_append_getElem h]
  unfold rd
  rw [Int.toNat_natCast, List.getD_eq_getElem?_getD, List.getElem?_eq_getElem h]
  rfl
theorem ids_mem {l : List Int} {b x : Int} {n : Nat} (h : x ∈ ids l b n) : ∃ i : Nat, x = (i : Int) ∧ i < n ∧ rd l (i : Int) = b := by
  unfold ids at h
  obtain ⟨i, hi, rfl⟩ := List.mem_map.1 h
  obtain ⟨h1, h2⟩ := List.mem_filter.1 hi
  exact ⟨i, rfl, List.mem_range.1 h1, by simpa using h2⟩
theorem ev_one {α : Type} {g : Nat → Option α} {a b : α} (h : Ev g a) (h' : Ev g b) : a = b := by
  obtain ⟨K, e⟩ := h
  obtain ⟨K', e'⟩ := h'
  have := (e (max K K') (by omega)).symm.trans (e' (max K K') (by omega))
  exact Option.some.inj this

section
variable (c : Int) (up lf : List Int) (l : List Cel) (cells : List Int) (hv : VT c up lf (cells.length : Int) l) (hcell : ∀ i : Nat, i < cells.length → 0 ≤ rd cells (i : Int) ∧ rd cells (i : Int) < l.length ∧ (rd_T32 l (rd cells (i : Int))).f1 = true)
include hv hcell
/-- What a buffer, or the port, drives. -/
def loadV (b : Int) : Int := foldW (fun i => rd (rd_T32 l (rd cells i)).f5 (rd_T32 l (rd cells i)).f2) (ids lf b lf.length) (foldW (fun _ => rd (rd_T32 l c).f5 0) (ids up b up.length) 0)
omit hcell in
theorem cap_pos (h : 0 < up.length) : 0 ≤ c ∧ c < l.length ∧ 0 < (rd_T32 l c).f5.length ∧ 0 < (rd_T32 l c).f6.length ∧ 0 < (rd_T32 l c).f7.length := by
  obtain ⟨v1, v2, v3, v4, v5, v6, v7, v8⟩ := hv
  obtain ⟨c0, c1, c2⟩ := v4 h
  obtain ⟨n, rfl⟩ : ∃ n : Nat, c = (n : Int) := ⟨c.toNat, by omega⟩
  have g := (v8 n (by omega)).1
  unfold isb at c2
  simp only [Bool.and_eq_true, Bool.not_eq_true', decide_eq_true_eq] at c2
  have := g.2 c2.1
  exact ⟨by omega, by omega, by omega, by omega, by omega⟩
theorem flop_cap (i : Nat) (hi : i < lf.length) : i < cells.length ∧ 0 ≤ rd cells (i : Int) ∧ rd cells (i : Int) < l.length ∧ 0 ≤ (rd_T32 l (rd cells (i : Int))).f2 ∧ (rd_T32 l (rd cells (i : Int))).f2 ≤ 2 ∧ (((rd_T32 l (rd cells (i : Int))).f5).length : Int) = (rd_T32 l (rd cells (i : Int))).f2 + 1 := by
  obtain ⟨v1, v2, v3, v4, v5, v6, v7, v8⟩ := hv
  obtain ⟨h0, h1, h2⟩ := hcell i (by omega)
  obtain ⟨n, hn⟩ : ∃ n : Nat, rd cells (i : Int) = (n : Int) := ⟨(rd cells (i : Int)).toNat, by omega⟩
  have g := (v8 n (by omega)).1
  rw [← hn] at g
  have := g.1 h2
  exact ⟨by omega, h0, h1, by omega, by omega, this.2.2.1⟩
theorem load_ev (b : Int) : Ev (fun k => tree_Load.f k c up lf b l cells) (loadV c up lf l cells b) := by
  have hl1 := hv.1
  have hl2 := hv.2.1
  unfold tree_Load.f
  refine Ev.bind (kids_ev c up lf (by omega) (by omega) b) ?_
  simp only []
  have i1 := ids_le up b up.length
  have i2 := ids_le lf b lf.length
  refine down (P := fun j => Ev (fun k => tree_Load.l0 k l cells (ids lf b lf.length) (foldW (fun _ => rd (rd_T32 l c).f5 0) ((ids up b up.length).take j) 0) ((ids up b up.length).length : Int) (j : Int) c up lf) (loadV c up lf l cells b)) (ids up b up.length).length ?_ ?_ 0 (by omega)
  · rw [List.take_length]
    refine Ev.step (fun k => by rw [tree_Load.l0]) (Ev.neg (by omega) ?_)
    refine down (P := fun j => Ev (fun k => tree_Load.l1 k l cells (foldW (fun i => rd (rd_T32 l (rd cells i)).f5 (rd_T32 l (rd cells i)).f2) ((ids lf b lf.length).take j) (foldW (fun _ => rd (rd_T32 l c).f5 0) (ids up b up.length) 0)) (ids lf b lf.length) ((ids lf b lf.length).length : Int) (j : Int)) (loadV c up lf l cells b)) (ids lf b lf.length).length ?_ ?_ 0 (by omega)
    · rw [List.take_length]
      refine Ev.step (fun k => by rw [tree_Load.l1]) ?_
      exact Ev.neg (by omega) (Ev.now _)
    · intro j hj ih
      obtain ⟨i, h1, h2, _⟩ := ids_mem (rd_mem hj)
      obtain ⟨f0, f1, f2, f3, f4, f5⟩ := flop_cap c up lf l cells hv hcell i h2
      rw [take_rd hj, foldW_snoc] at ih
      have ew : Aside0 (wrap64 ((j : Int) + 1) = ((j + 1 : Nat) : Int)) := ⟨ws hj (by omega)⟩
      refine Ev.step (fun k => by rw [tree_Load.l1]) ?_
      rw [ew.out]
      refine Ev.pos (by omega) (Ev.pos (by omega) (Ev.pos (by omega) (Ev.pos (by omega) (Ev.pos (by omega) ?_))))
      rw [h1] at ih ⊢
      exact Ev.pos f1 (Ev.pos f2 (Ev.pos f3 (Ev.pos (by omega) ih)))
  · intro j hj ih
    obtain ⟨i, h1, h2, _⟩ := ids_mem (rd_mem hj)
    obtain ⟨c0, c1, c2, _⟩ := cap_pos c up lf l cells hv (by omega)
    rw [take_rd hj, foldW_snoc] at ih
    have ew : Aside0 (wrap64 ((j : Int) + 1) = ((j + 1 : Nat) : Int)) := ⟨ws hj (by omega)⟩
    refine Ev.step (fun k => by rw [tree_Load.l0]) ?_
    rw [ew.out]
    exact Ev.pos (by omega) (Ev.pos c0 (Ev.pos c1 (Ev.pos (by omega) ih)))
theorem loadof_ev (b : Int) : Ev (fun k => maskref4_LoadOf.f k c up lf b l cells) (loadV c up lf l cells b) := by
  have hl1 := hv.1
  have hl2 := hv.2.1
  unfold maskref4_LoadOf.f
  refine down (P := fun j => Ev (fun k => maskref4_LoadOf.l0 k b l cells (foldW (fun _ => rd (rd_T32 l c).f5 0) (ids up b j) 0) up (up.length : Int) (j : Int) c up lf) (loadV c up lf l cells b)) up.length ?_ ?_ 0 (by omega)
  · refine Ev.step (fun k => by rw [maskref4_LoadOf.l0]) (Ev.neg (by omega) ?_)
    refine down (P := fun j => Ev (fun k => maskref4_LoadOf.l1 k b l cells (foldW (fun i => rd (rd_T32 l (rd cells i)).f5 (rd_T32 l (rd cells i)).f2) (ids lf b j) (foldW (fun _ => rd (rd_T32 l c).f5 0) (ids up b up.length) 0)) lf (lf.length : Int) (j : Int)) (loadV c up lf l cells b)) lf.length ?_ ?_ 0 (by omega)
    · refine Ev.step (fun k => by rw [maskref4_LoadOf.l1]) ?_
      exact Ev.neg (by omega) (Ev.now _)
    · intro j hj ih
      obtain ⟨f0, f1, f2, f3, f4, f5⟩ := flop_cap c up lf l cells hv hcell j hj
      rw [ids_succ] at ih
      have ew : Aside0 (wrap64 ((j : Int) + 1) = ((j + 1 : Nat) : Int)) := ⟨ws hj (by omega)⟩
      have el : Aside0 (wrap64 ((((rd_T32 l (rd cells (j : Int))).f5).length : Int) - 1) = (rd_T32 l (rd cells (j : Int))).f2) := ⟨by rw [w64 (by omega) (by omega)]; omega⟩
      refine Ev.step (fun k => by rw [maskref4_LoadOf.l1]) ?_
      rw [ew.out, el.out]
      by_cases h : rd lf (j : Int) = b
      · rw [if_pos h, foldW_snoc] at ih
        exact Ev.pos (by omega) (Ev.pos (by omega) (Ev.pos (by omega) (Ev.pos h (Ev.pos (by omega) (Ev.pos f1 (Ev.pos f2 (Ev.pos f3 (Ev.pos (by omega) ih))))))))
      · rw [if_neg h] at ih
        exact Ev.pos (by omega) (Ev.pos (by omega) (Ev.pos (by omega) (Ev.neg h ih)))
  · intro j hj ih
    obtain ⟨c0, c1, c2, _⟩ := cap_pos c up lf l cells hv (by omega)
    rw [ids_succ] at ih
    have ew : Aside0 (wrap64 ((j : Int) + 1) = ((j + 1 : Nat) : Int)) := ⟨ws hj (by omega)⟩
    refine Ev.step (fun k => by rw [maskref4_LoadOf.l0]) ?_
    rw [ew.out]
    by_cases h : rd up (j : Int) = b
    · rw [if_pos h, foldW_snoc] at ih
      exact Ev.pos (by omega) (Ev.pos (by omega) (Ev.pos (by omega) (Ev.pos h (Ev.pos c0 (Ev.pos c1 (Ev.pos (by omega) ih))))))
    · rw [if_neg h] at ih
      exact Ev.pos (by omega) (Ev.pos (by omega) (Ev.pos (by omega) (Ev.neg h ih)))

/-- One step of the reference, at a buffer. -/
def stepR (b : Int) (p : Int × Int) : Int × Int := (wrap64 (wrap64 (p.1 + rd (rd_T32 l c).f6 0) + wrap64 ((rd_T32 l c).f8 * loadV c up lf l cells b)), wrap64 (wrap64 (p.2 + rd (rd_T32 l c).f7 0) + wrap64 ((rd_T32 l c).f8 * loadV c up lf l cells b)))
omit hv hcell in
theorem reach_neg (b : Int) (hb : b < 0) : Ev (fun k => maskref4_Reaches.f k c up lf b l cells) (0, 0) := Ev.step (fun k => by rw [maskref4_Reaches.f]) (Ev.pos hb (Ev.now _))
theorem reach_step (b : Nat) (hb : b < up.length) (p : Int × Int) (hp : Ev (fun k => maskref4_Reaches.f k c up lf (rd up (b : Int)) l cells) p) : Ev (fun k => maskref4_Reaches.f k c up lf (b : Int) l cells) (stepR c up lf l cells (b : Int) p) := by
  obtain ⟨c0, c1, c2, c3, c4⟩ := cap_pos c up lf l cells hv (by omega)
  refine Ev.step (fun k => by rw [maskref4_Reaches.f]) (Ev.neg (by omega) (Ev.pos (by omega) (Ev.pos (by omega) (Ev.bind hp (Ev.pos c0 (Ev.pos c1 (Ev.bind (loadof_ev c up lf l cells hv hcell (b : Int)) ?_)))))))
  exact Ev.pos (by omega) (Ev.pos (by omega) (Ev.now _))
theorem reach_ev : ∀ (b : Nat), b < up.length → ∃ p, Ev (fun k => maskref4_Reaches.f k c up lf (b : Int) l cells) p := by
  intro b
  induction b using Nat.strongRecOn with
  | _ b ih =>
    intro hb
    obtain ⟨u0, u1⟩ := hv.2.2.2.2.1 b hb
    by_cases h : rd up (b : Int) < 0
    · exact ⟨_, reach_step c up lf l cells hv hcell b hb _ (reach_neg c up lf l cells _ h)⟩
    · obtain ⟨p, hp⟩ := ih (rd up (b : Int)).toNat (by omega) (by omega)
      rw [Int.toNat_of_nonneg (by omega)] at hp
      exact ⟨_, reach_step c up lf l cells hv hcell b hb p hp⟩
end
theorem wrap_ab (m p q : Int) : wrap64 (wrap64 (m + p) + q) = wrap64 (wrap64 (q + m) + p) := by
  unfold wrap64
  omega
theorem wrap_a0 (m p : Int) : wrap64 (m + p) = wrap64 (wrap64 (0 + m) + p) := by
  unfold wrap64
  omega
theorem rd_set (T : List Win) (i j : Nat) (x : Win) (h : i < T.length) : rd_T45 (T.set i x) (j : Int) = if i = j then x else rd_T45 T (j : Int) := by
  unfold rd_T45
  rw [Int.toNat_natCast, List.getD_eq_getElem?_getD, List.getD_eq_getElem?_getD, List.getElem?_set]
  by_cases e : i = j
  · subst e; simp [h]
  · simp [e]
def badc (l : List Cel) (x : Int) : Bool := !(decide (0 ≤ x ∧ x ≤ (l.length : Int) - 1)) || !((rd_T32 l x).f1)
theorem badc_false {l : List Cel} {x : Int} : badc l x = false ↔ 0 ≤ x ∧ x < l.length ∧ (rd_T32 l x).f1 = true := by
  unfold badc
  simp only [Bool.or_eq_false_iff, Bool.not_eq_false', decide_eq_true_eq]
  constructor
  · rintro ⟨⟨h1, h2⟩, h3⟩; exact ⟨h1, by omega, h3⟩
  · rintro ⟨h1, h2, h3⟩; exact ⟨⟨h1, by omega⟩, h3⟩
section
variable (c : Int) (up lf : List Int) (l : List Cel) (cells : List Int)
/-- What is known of the arrivals. -/
def ArrQ (e0 : Int) (R : List Win) (e : Int) : Prop :=
  (e0 ≠ 0 ∧ R = [] ∧ e = e0) ∨ (e0 = 0 ∧ cells.any (badc l) = true ∧ R = [] ∧ e = 8) ∨ (e0 = 0 ∧ cells.any (badc l) = false ∧ e = 0 ∧ R.length = cells.length ∧ lf.length = cells.length ∧ up.length ≤ 64 ∧
    (∀ i : Nat, i < lf.length → Ev (fun k => maskref4_Reaches.f k c up lf (rd lf (i : Int)) l cells) ((rd_T45 R (i : Int)).f0, (rd_T45 R (i : Int)).f1)) ∧
    ∀ b : Int, ∃ n, Ev (fun k => tree_Load.f k c up lf b l cells) n ∧ Ev (fun k => maskref4_LoadOf.f k c up lf b l cells) n)
theorem arr_l0 (hc : cells.length ≤ 288) (hl : l.length ≤ 64) (r : List Win × Int) (hbad : cells.any (badc l) = true → r = ([], 8)) (hgood : cells.any (badc l) = false → Ev (fun k => if 0 ≤ (up.length : Int) then (if ((up.length : Int) : Int).toNat ≤ 17592186044416 then (tree_Arrivals.l1 k l cells (List.replicate ((up.length : Int) : Int).toNat z45) up (up.length : Int) 0 c up lf) else none) else none) r) :
    Ev (fun k => tree_Arrivals.l0 k l cells cells (cells.length : Int) 0 c up lf) r := by
  have key := down (P := fun i => (∀ j : Nat, j < i → badc l (rd cells (j : Int)) = false) → Ev (fun k => tree_Arrivals.l0 k l cells cells (cells.length : Int) (i : Int) c up lf) r) cells.length ?_ ?_ 0 (by omega)
  · exact key (fun j hj => by omega)
  · intro hno
    refine Ev.step (fun k => by rw [tree_Arrivals.l0]) (Ev.neg (by omega) (hgood ?_))
    rw [List.any_eq_false]
    intro x hx
    obtain ⟨j, hj, rfl⟩ := mem_rd hx
    rw [hno j hj]
    simp
  · intro i hi ih hno
    have ew : Aside0 (wrap64 ((i : Int) + 1) = ((i + 1 : Nat) : Int)) := ⟨ws hi (by omega)⟩
    have bad : badc l (rd cells (i : Int)) = true → r = ([], 8) := fun h => hbad (List.any_eq_true.2 ⟨_, rd_mem hi, h⟩)
    refine Ev.step (fun k => by rw [tree_Arrivals.l0]) (Ev.pos (by omega) (Ev.pos (by omega) (Ev.pos (by omega) ?_)))
    rw [ew.out]
    cases hb : badc l (rd cells (i : Int)) with
    | false =>
      obtain ⟨b1, b2, b3⟩ := badc_false.1 hb
      refine Ev.neg (by omega) (Ev.neg (by omega) (Ev.pos b1 (Ev.pos b2 (Ev.pos b3 (ih (fun j hj => if e : j = i then e ▸ hb else hno j (by omega)))))))
    | true =>
      rw [bad hb]
      by_cases h1 : rd cells (i : Int) < 0
      · exact Ev.pos h1 (Ev.now _)
      · refine Ev.neg h1 ?_
        by_cases h2 : rd cells (i : Int) ≥ (l.length : Int)
        · exact Ev.pos h2 (Ev.now _)
        · refine Ev.neg h2 (Ev.pos (by omega) (Ev.pos (by omega) (Ev.neg (fun h3 => ?_) (Ev.now _))))
          rw [badc_false.2 ⟨by omega, by omega, h3⟩] at hb
          cases hb
section
variable (hv : VT c up lf (cells.length : Int) l) (hcell : ∀ i : Nat, i < cells.length → 0 ≤ rd cells (i : Int) ∧ rd cells (i : Int) < l.length ∧ (rd_T32 l (rd cells (i : Int))).f1 = true)
include hv hcell
omit hcell in
theorem arr_l2 (T : List Win) (P : Nat → Int × Int) (hT : T.length = up.length) (hP : ∀ j : Nat, j < up.length → (rd_T45 T (j : Int)).f0 = (P j).1 ∧ (rd_T45 T (j : Int)).f1 = (P j).2 ∧ Ev (fun k => maskref4_Reaches.f k c up lf (j : Int) l cells) (P j)) :
    ∀ i, i ≤ lf.length → ∀ acc : List Win, acc.length = i → (∀ j : Nat, j < i → Ev (fun k => maskref4_Reaches.f k c up lf (rd lf (j : Int)) l cells) ((rd_T45 acc (j : Int)).f0, (rd_T45 acc (j : Int)).f1)) →
    ∃ R, Ev (fun k => tree_Arrivals.l2 k T acc lf (lf.length : Int) (i : Int)) (R, 0) ∧ R.length = lf.length ∧ ∀ j : Nat, j < lf.length → Ev (fun k => maskref4_Reaches.f k c up lf (rd lf (j : Int)) l cells) ((rd_T45 R (j : Int)).f0, (rd_T45 R (j : Int)).f1) := by
  have h288 := hv.2.1
  refine down lf.length ?_ ?_
  · intro acc ha hacc
    exact ⟨acc, Ev.step (fun k => by rw [tree_Arrivals.l2]) (Ev.neg (by omega) (Ev.now _)), ha, hacc⟩
  · intro i hi ih acc ha hacc
    have ew : Aside0 (wrap64 ((i : Int) + 1) = ((i + 1 : Nat) : Int)) := ⟨ws hi (by omega)⟩
    have snoc : ∀ x : Win, Ev (fun k => maskref4_Reaches.f k c up lf (rd lf (i : Int)) l cells) (x.f0, x.f1) → ∀ j : Nat, j < i + 1 → Ev (fun k => maskref4_Reaches.f k c up lf (rd lf (j : Int)) l cells) ((rd_T45 (acc ++ [x]) (j : Int)).f0, (rd_T45 (acc ++ [x]) (j : Int)).f1) := by
      intro x hx j hj
      by_cases e : j = i
      · subst e
        have : rd_T45 (acc ++ [x]) (j : Int) = x := by
          unfold rd_T45
          rw [Int.toNat_natCast, List.getD_eq_getElem?_getD, List.getElem?_append_right (by omega), ha]
          simp
        rw [this]
        exact hx
      · have : rd_T45 (acc ++ [x]) (j : Int) = rd_T45 acc (j : Int) := by
          unfold rd_T45
          rw [Int.toNat_natCast, List.getD_eq_getElem?_getD, List.getD_eq_getElem?_getD, List.getElem?_append_left (by omega)]
        rw [this]
        exact hacc j (by omega)
    obtain ⟨u0, u1⟩ := hv.2.2.2.2.2.1 i hi
    by_cases h : rd lf (i : Int) < 0
    · obtain ⟨R, R1, R2⟩ := ih (acc ++ [⟨0, 0⟩]) (by simp [ha]) (snoc ⟨0, 0⟩ (reach_neg c up lf l cells _ h))
      refine ⟨R, ?_, R2⟩
      refine Ev.step (fun k => by rw [tree_Arrivals.l2]) (Ev.pos (by omega) (Ev.pos (by omega) (Ev.pos (by omega) (Ev.pos h (Ev.pos (by omega) ?_)))))
      rw [ew.out]
      exact R1
    · obtain ⟨n, hn⟩ : ∃ n : Nat, rd lf (i : Int) = (n : Int) := ⟨(rd lf (i : Int)).toNat, by omega⟩
      obtain ⟨p1, p2, p3⟩ := hP n (by omega)
      obtain ⟨R, R1, R2⟩ := ih (acc ++ [⟨(rd_T45 T (rd lf (i : Int))).f0, (rd_T45 T (rd lf (i : Int))).f1⟩]) (by simp [ha]) (snoc _ (by rw [hn]; simp only []; rw [p1, p2]; exact p3))
      refine ⟨R, ?_, R2⟩
      refine Ev.step (fun k => by rw [tree_Arrivals.l2]) (Ev.pos (by omega) (Ev.pos (by omega) (Ev.pos (by omega) (Ev.neg h (Ev.pos (by omega) (Ev.pos (by omega) (Ev.pos (by omega) ?_)))))))
      rw [ew.out]
      exact R1
theorem arr_l1 (P : Nat → Int × Int) (hP : ∀ j : Nat, j < up.length → Ev (fun k => maskref4_Reaches.f k c up lf (j : Int) l cells) (P j)) :
    ∀ i, i ≤ up.length → ∀ T : List Win, T.length = up.length → (∀ j : Nat, j < i → (rd_T45 T (j : Int)).f0 = (P j).1 ∧ (rd_T45 T (j : Int)).f1 = (P j).2) →
    ∃ R, Ev (fun k => tree_Arrivals.l1 k l cells T up (up.length : Int) (i : Int) c up lf) (R, 0) ∧ R.length = lf.length ∧ ∀ j : Nat, j < lf.length → Ev (fun k => maskref4_Reaches.f k c up lf (rd lf (j : Int)) l cells) ((rd_T45 R (j : Int)).f0, (rd_T45 R (j : Int)).f1) := by
  have h64 := hv.1
  refine down up.length ?_ ?_
  · intro T hT hTP
    obtain ⟨R, R1, R2⟩ := arr_l2 c up lf l cells hv T P hT (fun j hj => ⟨(hTP j hj).1, (hTP j hj).2, hP j hj⟩) 0 (by omega) [] rfl (fun j hj => by omega)
    replace R1 : Ev (fun k => tree_Arrivals.l2 k T [] lf (lf.length : Int) 0) (R, 0) := R1
    exact ⟨R, Ev.step (fun k => by rw [tree_Arrivals.l1]) (Ev.neg (by omega) R1), R2⟩
  · intro i hi ih T hT hTP
    obtain ⟨c0, c1, c2, c3, c4⟩ := cap_pos c up lf l cells hv (by omega)
    obtain ⟨u0, u1⟩ := hv.2.2.2.2.1 i hi
    have ew : Aside0 (wrap64 ((i : Int) + 1) = ((i + 1 : Nat) : Int)) := ⟨ws hi (by omega)⟩
    generalize hA : rd (rd_T32 l c).f6 0 = mlo
    generalize hB : rd (rd_T32 l c).f7 0 = mhi
    generalize hD : wrap64 ((rd_T32 l c).f8 * loadV c up lf l cells (i : Int)) = dl
    have go : ∀ T' : List Win, T'.length = up.length → (∀ j : Nat, j ≠ i → rd_T45 T' (j : Int) = rd_T45 T (j : Int)) → (rd_T45 T' (i : Int)).f0 = (P i).1 → (rd_T45 T' (i : Int)).f1 = (P i).2 →
        ∃ R, Ev (fun k => tree_Arrivals.l1 k l cells T' up (up.length : Int) ((i + 1 : Nat) : Int) c up lf) (R, 0) ∧ R.length = lf.length ∧ ∀ j : Nat, j < lf.length → Ev (fun k => maskref4_Reaches.f k c up lf (rd lf (j : Int)) l cells) ((rd_T45 R (j : Int)).f0, (rd_T45 R (j : Int)).f1) := by
      intro T' h1 h2 h3 h4
      refine ih T' h1 (fun j hj => ?_)
      by_cases e : j = i
      · subst e; exact ⟨h3, h4⟩
      · rw [h2 j e]; exact hTP j (by omega)
    have hstep : ∀ p, Ev (fun k => maskref4_Reaches.f k c up lf (rd up (i : Int)) l cells) p → P i = (wrap64 (wrap64 (p.1 + mlo) + dl), wrap64 (wrap64 (p.2 + mhi) + dl)) := by
      intro p hp
      have := ev_one (hP i hi) (reach_step c up lf l cells hv hcell i hi p hp)
      rw [this]
      unfold stepR
      rw [hA, hB, hD]
    by_cases h : rd up (i : Int) ≥ 0
    · obtain ⟨n, hn⟩ : ∃ n : Nat, rd up (i : Int) = (n : Int) := ⟨(rd up (i : Int)).toNat, by omega⟩
      have hPi := hstep (P n) (by rw [hn]; exact hP n (by omega))
      obtain ⟨t1, t2⟩ := hTP n (by omega)
      have hne : ¬ i = n := by omega
      obtain ⟨R, R1, R2⟩ := go (((T.set i ⟨wrap64 (mlo + dl), wrap64 (mhi + dl)⟩).set i ⟨wrap64 (wrap64 (mlo + dl) + (P n).1), wrap64 (mhi + dl)⟩).set i ⟨wrap64 (wrap64 (mlo + dl) + (P n).1), wrap64 (wrap64 (mhi + dl) + (P n).2)⟩) (by simp [hT]) (fun j hj => by rw [rd_set _ _ _ _ (by simp; omega), if_neg (fun e => hj e.symm), rd_set _ _ _ _ (by simp; omega), if_neg (fun e => hj e.symm), rd_set _ _ _ _ (by omega), if_neg (fun e => hj e.symm)]) (by rw [rd_set _ _ _ _ (by simp; omega), if_pos rfl, hPi]; exact wrap_ab _ _ _) (by rw [rd_set _ _ _ _ (by simp; omega), if_pos rfl, hPi]; exact wrap_ab _ _ _)
      refine ⟨R, ?_, R2⟩
      refine Ev.step (fun k => by rw [tree_Arrivals.l1]) (Ev.pos (by omega) (Ev.pos (by omega) (Ev.pos (by omega) (Ev.pos c0 (Ev.pos c1 (Ev.bind (load_ev c up lf l cells hv hcell (i : Int)) ?_))))))
      refine Ev.pos (by omega) (Ev.pos (by omega) (Ev.pos (by omega) ?_))
      simp only [Option.bind_some]
      rw [hA, hB, hD, ew.out, hn]
      refine Ev.pos (by omega) (Ev.pos (by omega) (Ev.pos (by omega) ?_))
      rw [Int.toNat_natCast, rd_set _ _ _ _ (by omega : i < T.length), if_pos rfl, rd_set _ _ _ _ (by omega : i < T.length), if_neg hne, t1, t2, rd_set _ _ _ _ (by simp; omega), if_pos rfl]
      exact R1
    · have hPi := hstep (0, 0) (reach_neg c up lf l cells _ (by omega))
      obtain ⟨R, R1, R2⟩ := go (T.set i ⟨wrap64 (mlo + dl), wrap64 (mhi + dl)⟩) (by simp [hT]) (fun j hj => by rw [rd_set _ _ _ _ (by omega), if_neg (fun e => hj e.symm)]) (by rw [rd_set _ _ _ _ (by omega), if_pos rfl, hPi]; exact wrap_a0 _ _) (by rw [rd_set _ _ _ _ (by omega), if_pos rfl, hPi]; exact wrap_a0 _ _)
      refine ⟨R, ?_, R2⟩
      refine Ev.step (fun k => by rw [tree_Arrivals.l1]) (Ev.pos (by omega) (Ev.pos (by omega) (Ev.pos (by omega) (Ev.pos c0 (Ev.pos c1 (Ev.bind (load_ev c up lf l cells hv hcell (i : Int)) ?_))))))
      refine Ev.pos (by omega) (Ev.pos (by omega) (Ev.pos (by omega) ?_))
      simp only [Option.bind_some]
      rw [hA, hB, hD, ew.out]
      refine Ev.neg h ?_
      rw [Int.toNat_natCast]
      exact R1
end
theorem arrivals_ev : ∃ e0 R e, Ev (fun k => maskref4_TreeFault.f k c up lf (cells.length : Int) l) e0 ∧ Ev (fun k => tree_Arrivals.f k c up lf l cells) (R, e) ∧ ArrQ c up lf l cells e0 R e := by
  obtain ⟨e0, f1, f2, q⟩ := tree_same c up lf (cells.length : Int) l
  by_cases h0 : e0 = 0
  · have hv := q h0
    have h288 : cells.length ≤ 288 := by have := hv.2.1; have := hv.2.2.1; omega
    cases hbad : cells.any (badc l) with
    | true =>
      refine ⟨e0, [], 8, f2, ?_, .inr (.inl ⟨h0, hbad, rfl, rfl⟩)⟩
      unfold tree_Arrivals.f
      exact Ev.bind f1 (Ev.pos h0 (arr_l0 c up lf l cells h288 hv.2.2.2.2.2.2.1 _ (fun _ => rfl) (fun h => by rw [hbad] at h; cases h)))
    | false =>
      have hcell : ∀ i : Nat, i < cells.length → 0 ≤ rd cells (i : Int) ∧ rd cells (i : Int) < l.length ∧ (rd_T32 l (rd cells (i : Int))).f1 = true := fun i hi => badc_false.1 (by
        have := List.any_eq_false.1 hbad _ (rd_mem hi)
        simpa using this)
      obtain ⟨P, hP⟩ : ∃ P : Nat → Int × Int, ∀ j : Nat, j < up.length → Ev (fun k => maskref4_Reaches.f k c up lf (j : Int) l cells) (P j) := by
        refine ⟨fun j => if h : j < up.length then Classical.choose (reach_ev c up lf l cells hv hcell j h) else (0, 0), fun j hj => ?_⟩
        simp only [hj, dif_pos]
        exact Classical.choose_spec (reach_ev c up lf l cells hv hcell j hj)
      obtain ⟨R, R1, R2, R3⟩ := arr_l1 c up lf l cells hv hcell P hP 0 (by omega) (List.replicate up.length z45) (by simp) (fun j hj => by omega)
      replace R1 : Ev (fun k => tree_Arrivals.l1 k l cells (List.replicate up.length z45) up (up.length : Int) 0 c up lf) (R, 0) := R1
      refine ⟨e0, R, 0, f2, ?_, .inr (.inr ⟨h0, hbad, rfl, by have := hv.2.2.1; omega, by have := hv.2.2.1; omega, hv.1, R3, fun b => ⟨_, load_ev c up lf l cells hv hcell b, loadof_ev c up lf l cells hv hcell b⟩⟩)⟩
      unfold tree_Arrivals.f
      refine Ev.bind f1 (Ev.pos h0 (arr_l0 c up lf l cells h288 hv.2.2.2.2.2.2.1 _ (fun h => by rw [hbad] at h; cases h) (fun _ => ?_)))
      refine Ev.pos (by omega) (Ev.pos (by have := hv.1; omega) ?_)
      rw [Int.toNat_natCast]
      exact R1
  · refine ⟨e0, [], e0, f2, ?_, .inl ⟨h0, rfl, rfl⟩⟩
    unfold tree_Arrivals.f
    exact Ev.bind f1 (Ev.neg h0 (Ev.now _))
end
end Go.Proofs.Ytagpbgabcenodaa.LTA
