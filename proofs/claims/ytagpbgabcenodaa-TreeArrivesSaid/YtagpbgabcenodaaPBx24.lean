-- PRINTED by print.py (a twelfth state) out of the translation. Not trusted: Lean checks it.
import Derived.Test.YtagpbgabcenodaaPBx0
import Derived.Test.YtagpbgabcenodaaPBx15
import Derived.Test.YtagpbgabcenodaaPBx23
namespace Go.Proofs.Ytagpbgabcenodaa.PB
open Go.RowKit Go.Proofs.YtagpbgabcenodaaW.PrintWords Go.Proofs.YtagpbgabcenodaaW.PrintLast Go.Proofs.YtagpbgabcenodaaW.PrintMore
attribute [local go_sem] max2_int min2_int max_two min_two max_three min_three max_four min_four   -- for this text's walks alone
private theorem z1 {α : Type} {l : List α} {i : Nat} {a : α} : l.toArray.setIfInBounds i a = (l.set i a).toArray := List.setIfInBounds_toArray _ _ _
private theorem z2 {α : Type} {x : α} {xs : List α} {a : α} : (x :: xs).set 0 a = a :: xs := List.set_cons_zero
private theorem z3 {α : Type} {x : α} {xs : List α} {n : Nat} {a : α} : (x :: xs).set (n + 1) a = x :: xs.set n a := List.set_cons_succ
private abbrev zb (n m : Nat) : Array Bool := (List.replicate n true ++ List.replicate m false).toArray
set_option linter.unusedVariables false
set_option linter.unusedSimpArgs false

/-! ### tree_Arrivals: function 16 -/
mutual
def tree_Arrivals.l0 : Nat → List (S32) → List Int → List Int → Int → Int → Int → List Int → List Int → Option ((List (S45)) × Int)
 | 0, _, _, _, _, _, _, _, _ => none
 | k + 1, x1, x2, x27, x28, x29, x234000, x234001, x234002 => if x29 < x28 then (if 0 ≤ x29 then (if x29 < (x27.length : Int) then (if (rd x27 x29) < 0 then (some (([] : List (S45)), 8)) else (if (rd x27 x29) ≥ (x1.length : Int) then (some (([] : List (S45)), 8)) else (if 0 ≤ (rd x27 x29) then (if (rd x27 x29) < (x1.length : Int) then (if ((rd_T32 x1 (rd x27 x29)).f1 = true) then (tree_Arrivals.l0 k x1 x2 x27 x28 (wrap64 (x29 + 1)) x234000 x234001 x234002) else (some (([] : List (S45)), 8))) else (none)) else (none)))) else (none)) else (none)) else (if 0 ≤ (x234001.length : Int) then (if ((x234001.length : Int) : Int).toNat ≤ 17592186044416 then (tree_Arrivals.l1 k x1 x2 (List.replicate ((x234001.length : Int) : Int).toNat z45) x234001 (x234001.length : Int) 0 x234000 x234001 x234002) else (none)) else (none))
def tree_Arrivals.l1 : Nat → List (S32) → List Int → List (S45) → List Int → Int → Int → Int → List Int → List Int → Option ((List (S45)) × Int)
 | 0, _, _, _, _, _, _, _, _, _ => none
 | k + 1, x1, x2, x11, x55, x56, x57, x234000, x234001, x234002 => if x57 < x56 then (if 0 ≤ x57 then (if x57 < (x55.length : Int) then (if 0 ≤ x234000 then (if x234000 < (x1.length : Int) then ((tree_Load.f k x234000 x234001 x234002 x57 x1 x2).bind fun t242 => (if 0 < (((rd_T32 x1 x234000).f6).length : Int) then (if 0 < (((rd_T32 x1 x234000).f7).length : Int) then (if x57 < (x11.length : Int) then ((some (x11.set (x57 : Int).toNat (⟨wrap64 ((rd ((rd_T32 x1 x234000).f6) 0) + (wrap64 (((rd_T32 x1 x234000).f8) * t242))), wrap64 ((rd ((rd_T32 x1 x234000).f7) 0) + (wrap64 (((rd_T32 x1 x234000).f8) * t242)))⟩ : S45) : List (S45))).bind fun y246 => (if (rd x55 x57) ≥ 0 then (if 0 ≤ (rd x55 x57) then (if (rd x55 x57) < (x11.length : Int) then ((some (y246.set (x57 : Int).toNat (⟨wrap64 (((rd_T45 y246 x57).f0) + ((rd_T45 y246 (rd x55 x57)).f0)), (rd_T45 y246 x57).f1⟩ : S45) : List (S45))).bind fun y251 => (tree_Arrivals.l1 k x1 x2 (y251.set (x57 : Int).toNat (⟨(rd_T45 y251 x57).f0, wrap64 (((rd_T45 y246 x57).f1) + ((rd_T45 y246 (rd x55 x57)).f1))⟩ : S45)) x55 x56 (wrap64 (x57 + 1)) x234000 x234001 x234002)) else (none)) else (none)) else (tree_Arrivals.l1 k x1 x2 y246 x55 x56 (wrap64 (x57 + 1)) x234000 x234001 x234002))) else (none)) else (none)) else (none))) else (none)) else (none)) else (none)) else (none)) else (tree_Arrivals.l2 k x11 ([] : List (S45)) x234002 (x234002.length : Int) 0)
def tree_Arrivals.l2 : Nat → List (S45) → List (S45) → List Int → Int → Int → Option ((List (S45)) × Int)
 | 0, _, _, _, _, _ => none
 | k + 1, x11, x16, x128, x129, x130 => if x130 < x129 then (if 0 ≤ x130 then (if x130 < (x128.length : Int) then (if (rd x128 x130) < 0 then (if x16.length < 8796093022208 then (tree_Arrivals.l2 k x11 (x16 ++ [(⟨0, 0⟩ : S45)]) x128 x129 (wrap64 (x130 + 1))) else (none)) else (if 0 ≤ (rd x128 x130) then (if (rd x128 x130) < (x11.length : Int) then (if x16.length < 8796093022208 then (tree_Arrivals.l2 k x11 (x16 ++ [(⟨(rd_T45 x11 (rd x128 x130)).f0, (rd_T45 x11 (rd x128 x130)).f1⟩ : S45)]) x128 x129 (wrap64 (x130 + 1))) else (none)) else (none)) else (none))) else (none)) else (none)) else (some (x16, 0))
end
def tree_Arrivals.f (k : Nat) (a0_0 : Int) (l0_1 : List Int) (l0_2 : List Int) (l1 : List (S32)) (l2 : List Int) : Option ((List (S45)) × Int) := (tree_Check.f k a0_0 l0_1 l0_2 (l2.length : Int) l1).bind fun t234 => (if t234 = 0 then (tree_Arrivals.l0 k l1 l2 l2 (l2.length : Int) 0 a0_0 l0_1 l0_2) else (some (([] : List (S45)), t234)))
theorem tree_Arrivals.mono_l : ∀ k, (∀ y0 y1 y2 y3 y4 y5 y6 y7, LeO (tree_Arrivals.l0 k y0 y1 y2 y3 y4 y5 y6 y7) (tree_Arrivals.l0 (k + 1) y0 y1 y2 y3 y4 y5 y6 y7)) ∧ (∀ y0 y1 y2 y3 y4 y5 y6 y7 y8, LeO (tree_Arrivals.l1 k y0 y1 y2 y3 y4 y5 y6 y7 y8) (tree_Arrivals.l1 (k + 1) y0 y1 y2 y3 y4 y5 y6 y7 y8)) ∧ (∀ y0 y1 y2 y3 y4, LeO (tree_Arrivals.l2 k y0 y1 y2 y3 y4) (tree_Arrivals.l2 (k + 1) y0 y1 y2 y3 y4))
 | 0 => ⟨fun _ _ _ _ _ _ _ _ r h => by simp [tree_Arrivals.l0] at h, fun _ _ _ _ _ _ _ _ _ r h => by simp [tree_Arrivals.l1] at h, fun _ _ _ _ _ r h => by simp [tree_Arrivals.l2] at h⟩
 | k + 1 => by
  obtain ⟨ih0, ih1, ih2⟩ := tree_Arrivals.mono_l k
  refine ⟨?_, ?_, ?_⟩
  · intro y0 y1 y2 y3 y4 y5 y6 y7
    unfold tree_Arrivals.l0
    repeat' first
    | (with_reducible exact ih0 _ _ _ _ _ _ _ _)
    | (with_reducible exact ih1 _ _ _ _ _ _ _ _ _)
    | (with_reducible exact ih2 _ _ _ _ _)
    | (with_reducible exact tree_Check.mono _ _ _ _ _ _)
    | (with_reducible exact tree_Load.mono _ _ _ _ _ _ _)
    | (with_reducible exact LeO.refl _)
    | (with_reducible exact LeO.none _)
    | (with_reducible refine LeO.ite ?_ ?_)
    | (with_reducible refine LeO.bind ?_ (fun _ => ?_))
    | exact ih0 _ _ _ _ _ _ _ _
    | exact ih1 _ _ _ _ _ _ _ _ _
    | exact ih2 _ _ _ _ _
    | exact tree_Check.mono _ _ _ _ _ _
    | exact tree_Load.mono _ _ _ _ _ _ _
    | exact LeO.none _
    | refine LeO.ite ?_ ?_
    | refine LeO.bind ?_ (fun _ => ?_)
  · intro y0 y1 y2 y3 y4 y5 y6 y7 y8
    unfold tree_Arrivals.l1
    repeat' first
    | (with_reducible exact ih0 _ _ _ _ _ _ _ _)
    | (with_reducible exact ih1 _ _ _ _ _ _ _ _ _)
    | (with_reducible exact ih2 _ _ _ _ _)
    | (with_reducible exact tree_Check.mono _ _ _ _ _ _)
    | (with_reducible exact tree_Load.mono _ _ _ _ _ _ _)
    | (with_reducible exact LeO.refl _)
    | (with_reducible exact LeO.none _)
    | (with_reducible refine LeO.ite ?_ ?_)
    | (with_reducible refine LeO.bind ?_ (fun _ => ?_))
    | exact ih0 _ _ _ _ _ _ _ _
    | exact ih1 _ _ _ _ _ _ _ _ _
    | exact ih2 _ _ _ _ _
    | exact tree_Check.mono _ _ _ _ _ _
    | exact tree_Load.mono _ _ _ _ _ _ _
    | exact LeO.none _
    | refine LeO.ite ?_ ?_
    | refine LeO.bind ?_ (fun _ => ?_)
  · intro y0 y1 y2 y3 y4
    unfold tree_Arrivals.l2
    repeat' first
    | (with_reducible exact ih0 _ _ _ _ _ _ _ _)
    | (with_reducible exact ih1 _ _ _ _ _ _ _ _ _)
    | (with_reducible exact ih2 _ _ _ _ _)
    | (with_reducible exact tree_Check.mono _ _ _ _ _ _)
    | (with_reducible exact tree_Load.mono _ _ _ _ _ _ _)
    | (with_reducible exact LeO.refl _)
    | (with_reducible exact LeO.none _)
    | (with_reducible refine LeO.ite ?_ ?_)
    | (with_reducible refine LeO.bind ?_ (fun _ => ?_))
    | exact ih0 _ _ _ _ _ _ _ _
    | exact ih1 _ _ _ _ _ _ _ _ _
    | exact ih2 _ _ _ _ _
    | exact tree_Check.mono _ _ _ _ _ _
    | exact tree_Load.mono _ _ _ _ _ _ _
    | exact LeO.none _
    | refine LeO.ite ?_ ?_
    | refine LeO.bind ?_ (fun _ => ?_)
theorem tree_Arrivals.mono : ∀ a0 a1 a2 a3 a4 k, LeO (tree_Arrivals.f k a0 a1 a2 a3 a4) (tree_Arrivals.f (k + 1) a0 a1 a2 a3 a4) := by
 intro a0 a1 a2 a3 a4 k
 obtain ⟨ih0, ih1, ih2⟩ := tree_Arrivals.mono_l k
 unfold tree_Arrivals.f
 repeat' first
  | (with_reducible exact ih0 _ _ _ _ _ _ _ _)
  | (with_reducible exact ih1 _ _ _ _ _ _ _ _ _)
  | (with_reducible exact ih2 _ _ _ _ _)
  | (with_reducible exact tree_Check.mono _ _ _ _ _ _)
  | (with_reducible exact tree_Load.mono _ _ _ _ _ _ _)
  | (with_reducible exact LeO.refl _)
  | (with_reducible exact LeO.none _)
  | (with_reducible refine LeO.ite ?_ ?_)
  | (with_reducible refine LeO.bind ?_ (fun _ => ?_))
  | exact ih0 _ _ _ _ _ _ _ _
  | exact ih1 _ _ _ _ _ _ _ _ _
  | exact ih2 _ _ _ _ _
  | exact tree_Check.mono _ _ _ _ _ _
  | exact tree_Load.mono _ _ _ _ _ _ _
  | exact LeO.none _
  | refine LeO.ite ?_ ?_
  | refine LeO.bind ?_ (fun _ => ?_)
def tree_Arrivals.T14 : Bool × List (List Nat × List Nat) := (true, [([], []), ([], []), ([1], [1]), ([0, 2], [0, 2]), ([3], [3]), ([], []), ([], []), ([], []), ([], []), ([5, 6, 7, 8], [5, 6, 7, 8]), ([], []), ([10, 4, 9, 0, 1, 2, 3, 4, 10], [4, 10]), ([9, 11, 0, 1, 2, 3, 4, 5, 6, 7, 8, 9, 10, 11], [9])])
def tree_Arrivals.B14 : List Nat := [0, 0, 2, 7, 15, 0, 0, 0, 0, 480, 0, 2047, 4095]
theorem tree_Arrivals.tab14 : rtab .any (opsOf Try.f16 14) = tree_Arrivals.T14 := by kernel_rfl
theorem tree_Arrivals.bits14 : waitsOk tree_Arrivals.T14.2 tree_Arrivals.B14 = true := by kernel_rfl
def tree_Arrivals.T15 : Bool × List (List Nat × List Nat) := (true, [([], []), ([], []), ([], []), ([2], [2]), ([3], [3]), ([4], [4]), ([], []), ([6], [6]), ([], []), ([7, 8], [7, 8]), ([5, 9], [5, 9]), ([], []), ([11], [11]), ([12], [12]), ([13], [13]), ([], []), ([15], [15]), ([], []), ([16, 17], [16, 17]), ([14, 18], [14, 18]), ([10, 19], [10, 19]), ([0, 1, 0, 1, 2, 3, 4, 5, 6, 7, 8, 9, 10, 11, 12, 13, 14, 15, 16, 17, 18, 19, 20], [0, 1]), ([21, 20, 0, 1, 2, 3, 4, 5, 6, 7, 8, 9, 10, 11, 12, 13, 14, 15, 16, 17, 18, 19, 20], [20, 21])])
def tree_Arrivals.B15 : List Nat := [0, 0, 0, 4, 12, 28, 0, 64, 0, 448, 1020, 0, 2048, 6144, 14336, 0, 32768, 0, 229376, 522240, 1048572, 2097151, 4194303]
theorem tree_Arrivals.tab15 : rtab .any (opsOf Try.f16 15) = tree_Arrivals.T15 := by kernel_rfl
theorem tree_Arrivals.bits15 : waitsOk tree_Arrivals.T15.2 tree_Arrivals.B15 = true := by kernel_rfl
def tree_Arrivals.T17 : Bool × List (List Nat × List Nat) := (true, [([], []), ([], []), ([], []), ([], []), ([], []), ([], []), ([4, 5], [4, 5]), ([6], [6]), ([7], [7]), ([], []), ([], []), ([9, 10], [9, 10]), ([11], [11]), ([12], [12]), ([8, 13], [8, 13]), ([], []), ([], []), ([15, 16], [15, 16]), ([17], [17]), ([18], [18]), ([], []), ([], []), ([20, 21], [20, 21]), ([22], [22]), ([23], [23]), ([19, 24], [19, 24]), ([0, 1, 0, 1, 4, 5, 6, 7, 8, 9, 10, 11, 12, 13, 14, 19, 24], [0, 1]), ([26, 0, 1, 4, 5, 6, 7, 8, 9, 10, 11, 12, 13, 14, 19, 24], [26]), ([27, 14, 0, 1, 4, 5, 6, 7, 8, 9, 10, 11, 12, 13, 14, 19, 24], [14, 27]), ([2, 3, 0, 1, 2, 3, 4, 5, 6, 7, 8, 9, 10, 11, 12, 13, 14, 15, 16, 17, 18, 19, 20, 21, 22, 23, 24, 25, 26, 27, 28], [2, 3]), ([29, 0, 1, 2, 3, 4, 5, 6, 7, 8, 9, 10, 11, 12, 13, 14, 15, 16, 17, 18, 19, 20, 21, 22, 23, 24, 25, 26, 27, 28], [29]), ([30, 25, 28, 0, 1, 2, 3, 4, 5, 6, 7, 8, 9, 10, 11, 12, 13, 14, 15, 16, 17, 18, 19, 20, 21, 22, 23, 24, 25, 26, 27, 28], [25, 30])])
def tree_Arrivals.B17 : List Nat := [0, 0, 0, 0, 0, 0, 48, 112, 240, 0, 0, 1536, 3584, 7680, 16368, 0, 0, 98304, 229376, 491520, 0, 0, 3145728, 7340032, 15728640, 33521664, 33554419, 100663283, 234881011, 536870911, 1073741823, 2147483647]
theorem tree_Arrivals.tab17 : rtab .any (opsOf Try.f16 17) = tree_Arrivals.T17 := by kernel_rfl
theorem tree_Arrivals.bits17 : waitsOk tree_Arrivals.T17.2 tree_Arrivals.B17 = true := by kernel_rfl
set_option maxHeartbeats 8000000 in
set_option maxRecDepth 100000 in
theorem tree_Arrivals.calls (k : Nat) (a0_0 : Int) (A0_1 : Option Addr) (c0_1 : Nat) (l0_1 : List Int) (A0_2 : Option Addr) (c0_2 : Nat) (l0_2 : List Int) (A1 : Option Addr) (c1 : Nat) (l1 : List (S32)) (A2 : Option Addr) (c2 : Nat) (l2 : List Int) (r1 : List (S45)) (r2 : Int) (w : World) (hr0_1 : Kd.C (Kd.int .i64) w A0_1 l0_1.length l0_1) (hc0_1 : l0_1.length ≤ c0_1) (hr0_2 : Kd.C (Kd.int .i64) w A0_2 l0_2.length l0_2) (hc0_2 : l0_2.length ≤ c0_2) (hr1 : Kd.C k32 w A1 l1.length l1) (hc1 : l1.length ≤ c1) (hr2 : Kd.C (Kd.int .i64) w A2 l2.length l2) (hc2 : l2.length ≤ c2) (h : tree_Arrivals.f k a0_0 l0_1 l0_2 l1 l2 = some (r1, r2)) :
 Calls Try.prog 16 #[.agg #[.int .i64 a0_0, .slice A0_1 l0_1.length c0_1, .slice A0_2 l0_2.length c0_2], .slice A1 l1.length c1, .slice A2 l2.length c2] w fun e w' => ∃ v0_ : Value, e = .returned (.tuple #[v0_, .int .i64 r2]) ∧ Kd.R k45 45 w' w.heap.size (fun _ => True) v0_ r1 ∧ Below w.heap.size w w' := by
 have hu24 := Try.underlying24
 have hu32 := Try.underlying32
 have hu45 := Try.underlying45
 have HR0_1 := Aside0.mk hr0_1
 have HC0_1 := Aside0.mk hc0_1
 clear hr0_1 hc0_1
 have HR0_2 := Aside0.mk hr0_2
 have HC0_2 := Aside0.mk hc0_2
 clear hr0_2 hc0_2
 have HR1 := Aside0.mk hr1
 have HC1 := Aside0.mk hc1
 clear hr1 hc1
 have HR2 := Aside0.mk hr2
 have HC2 := Aside0.mk hc2
 clear hr2 hc2
 have HB := Aside0.mk (Below.refl w.heap.size w)
 have H : ((tree_Check.f k a0_0 l0_1 l0_2 (l2.length : Int) l1).bind fun t234 => (if t234 = 0 then (tree_Arrivals.l0 k l1 l2 l2 (l2.length : Int) 0 a0_0 l0_1 l0_2) else (some (([] : List (S45)), t234)))) = some (r1, r2) := h
 clear h
 replace H := Option.bind_eq_some_iff.mp H
 obtain ⟨t234, A40, H⟩ := H
 replace H : (if t234 = 0 then (tree_Arrivals.l0 k l1 l2 l2 (l2.length : Int) 0 a0_0 l0_1 l0_2) else (some (([] : List (S45)), t234))) = some (r1, r2) := H
 have A4 := Aside0.mk A40
 clear A40
 by_cases c5 : t234 = 0
 · rw [if_pos c5] at H
   have c5b0 : (t234 == 0) = true := beq_iff_eq.mpr c5
   have c5b1 : (t234 != 0) = false := bne_eq_false_iff_eq.mpr c5
   clear c5
   have H' := Aside0.mk H
   clear H
   go_enter Try.func16, Try.ntmps16
   go_wp2_with (first | ((with_reducible refine gate_dst (N := 3) rfl ?_); (try (refine gate_guard (by rfl) ?_; dsimp only)); refine box_event ?hg (N := 3) ?hd (cs := #[.int .i64 a0_0, .slice A0_1 l0_1.length c0_1, .slice A0_2 l0_2.length c0_2]) (t := 24) ?hr ?_; (case hd => rfl); (case hg => rfl); (case hr => first | (go_simp; done) | (go_simp; rfl)); intro gb233 hg w6 hbox hb; have n0_ := Aside0.mk (below_step (by repeat (first | (with_reducible first | exact HB.out | apply below_alloc | apply pw_below_drewN | apply below_drew1) | exact HB.out)) hb); have n1_ := Aside0.mk (hbox); have n2_ := Aside0.mk ((by rw [hg]; exact (below_size (by repeat (first | (with_reducible first | exact HB.out | apply below_alloc | apply pw_below_drewN | apply below_drew1) | exact HB.out))) : w.heap.size ≤ gb233)); have n3_ := Aside0.mk ((by rw [hg]; exact (below_size (by repeat (first | (with_reducible first | exact HB.out | apply below_alloc | apply pw_below_drewN | apply below_drew1) | exact HB.out))) : w.heap.size ≤ gb233)); clear HB; have HB := n0_; have BK233 := n1_; have GW233 := n2_; have GE233 := n3_; clear n0_ n1_ n2_ n3_; clear hb hbox hg; have hcz7_0 : w6.cell? ⟨gb233, 0, none⟩ = some (.int .i64 a0_0) := (blk_cell BK233.out 0).trans rfl; have hcz7_1 : w6.cell? ⟨gb233, 1, none⟩ = some (.slice A0_1 l0_1.length c0_1) := (blk_cell BK233.out 1).trans rfl; have hcz7_2 : w6.cell? ⟨gb233, 2, none⟩ = some (.slice A0_2 l0_2.length c0_2) := (blk_cell BK233.out 2).trans rfl; have hfz7_0 := blk_frozen BK233.out 0; have hfz7_1 := blk_frozen BK233.out 1; have hfz7_2 := blk_frozen BK233.out 2) | ((with_reducible refine gate_callee (f := 7) rfl ?_); refine goesL_ (some 23) rfl rfl Try.func7 (by kernel_rfl) rfl #[.agg #[.int .i64 a0_0, .slice A0_1 l0_1.length c0_1, .slice A0_2 l0_2.length c0_2], .int .i64 (l2.length : Int), .slice A1 l1.length c1] rfl (by (try simp only [List.map_toArray, List.map_cons, List.map_nil]); first | done | rfl | (simp only [List.length_drop, List.length_take]; rfl)) ?_; (with_reducible refine (tree_Check.calls k a0_0 _ _ l0_1 _ _ l0_2 (l2.length : Int) _ _ l1 t234 _ ?side1 ?side2 ?side3 ?side4 ?side5 ?side6 A4.out).mono ?_); (case side1 => repeat (first | exact (Kd.C_below HR0_1.out HB.out) | (with_reducible refine Kd.C_alloc ?_ _) | (with_reducible refine Kd.C_drewN ?_ _) | (with_reducible refine Kd.C_drew ?_))); (case side2 => exact HC0_1.out); (case side3 => repeat (first | exact (Kd.C_below HR0_2.out HB.out) | (with_reducible refine Kd.C_alloc ?_ _) | (with_reducible refine Kd.C_drewN ?_ _) | (with_reducible refine Kd.C_drew ?_))); (case side4 => exact HC0_2.out); (case side5 => repeat (first | exact (Kd.C_below HR1.out HB.out) | (with_reducible refine Kd.C_alloc ?_ _) | (with_reducible refine Kd.C_drewN ?_ _) | (with_reducible refine Kd.C_drew ?_))); (case side6 => exact HC1.out); rintro e w8 ⟨rfl, hb⟩; refine ⟨_, rfl, ?_⟩; have n0_ := Aside0.mk (blk_below (g := gb233) (o := .cells #[.int .i64 a0_0, .slice A0_1 l0_1.length c0_1, .slice A0_2 l0_2.length c0_2] 24 (0, 0)) (by (with_reducible repeat (first | refine blk_drewN ?_ _ | refine blk_drew ?_ | refine blk_alloc ?_ _)); exact BK233.out) hb); have n1_ := Aside0.mk (below_step (by repeat (first | (with_reducible first | exact HB.out | apply below_alloc | apply pw_below_drewN | apply below_drew1 | refine below_set ?_ GE233.out) | exact HB.out)) hb); clear BK233; clear HB; have BK233 := n0_; have HB := n1_; clear n0_ n1_; (try clear hb); (try clear hb2); (try clear hk); (try clear hi)))
   go_loopg [29] k (fun kq v29 w' => ∃ (x29_1 : Int), v29 = .int .i64 x29_1 ∧ Aside0 (tree_Arrivals.l0 kq l1 l2 l2 (l2.length : Int) x29_1 a0_0 l0_1 l0_2 = some (r1, r2)) ∧ Aside0 (kq ≤ k) ∧ Aside0 (w'.heap[gb233]? = some (.cells #[.int .i64 a0_0, (.slice A0_1 l0_1.length c0_1), (.slice A0_2 l0_2.length c0_2)] 24 (0, 0))) ∧ Aside0 (Below w.heap.size w w'))
   case atStart => exact ⟨(0), (by first | rfl | (simp; done) | (simp [*]; done)), H', ⟨Nat.le_refl _⟩, ⟨by (with_reducible repeat (first | refine blk_drewN ?_ _ | refine blk_drew ?_ | refine blk_alloc ?_ _)); exact BK233.out⟩, ⟨by repeat (first | (with_reducible first | exact HB.out | apply below_alloc | apply pw_below_drewN | apply below_drew1 | refine below_set ?_ GE233.out) | exact HB.out)⟩⟩
   case round =>
    clear H'
    clear c5b0 c5b1 hcz7_0 hcz7_1 hcz7_2 hfz7_0 hfz7_1 hfz7_2
    obtain ⟨x29_1, rfl, HA, HK1, BK233, HB⟩ := hrel
    cases gk with
    | zero => exact absurd HA.out (by simp [tree_Arrivals.l0])
    | succ k1 =>
     have H := HA.out
     clear HA
     simp only [tree_Arrivals.l0] at H
     by_cases c9 : x29_1 < (l2.length : Int)
     · rw [if_pos c9] at H
       have c9b0 : decide (x29_1 < (l2.length : Int)) = true := decide_eq_true c9
       clear c9
       by_cases c10 : 0 ≤ x29_1
       · rw [if_pos c10] at H
         have c10b0 : decide (0 ≤ x29_1) = true := decide_eq_true c10
         clear c10
         by_cases c11 : x29_1 < (l2.length : Int)
         · rw [if_pos c11] at H
           have c11b0 : decide (x29_1 < (l2.length : Int)) = true := decide_eq_true c11
           clear c11
           by_cases c12 : (rd l2 x29_1) < 0
           · rw [if_pos c12] at H
             have c12b0 : decide ((rd l2 x29_1) < 0) = true := decide_eq_true c12
             clear c12
             simp only [Option.some.injEq, Prod.mk.injEq] at H
             obtain ⟨rfl, rfl⟩ := H
             have p235 : 0 ≤ (x29_1 : Int) := of_decide_eq_true (by first | (with_reducible assumption) | assumption)
             have q235 : x29_1 < (l2.length : Int) := of_decide_eq_true (by first | (with_reducible assumption) | assumption)
             obtain ⟨ad235, e235, hx235_0⟩ := Kd.at_int HR2.out x29_1 p235 q235
             cases e235
             replace hx235_0 := (HB.out.cell (World.block_lt_of_cell? w _ hx235_0)).trans hx235_0
             replace p235 := eq_true p235
             replace q235 := eq_true q235
             go_wp2
             go_ret2
             exact ⟨_, by first | rfl | (simp [errW_none, errW_some] <;> rfl) | (simp [*, errW_none, errW_some] <;> rfl), by first | exact Kd.R_nil _ _ _ _ _ | exact Kd.N_nil _ _ _ _ _ | exact Kd.V_nil _ _ _ _ _ | exact Kd.Q_nil _ _ _ _ _ | exact Kd.S_nil _ _ _ _ _, by repeat (first | (with_reducible first | exact HB.out | apply below_alloc | apply pw_below_drewN | apply below_drew1 | refine below_set ?_ GE233.out) | exact HB.out)⟩
           · rw [if_neg c12] at H
             have c12b0 : decide ((rd l2 x29_1) < 0) = false := decide_eq_false c12
             clear c12
             by_cases c13 : (rd l2 x29_1) ≥ (l1.length : Int)
             · rw [if_pos c13] at H
               have c13b0 : decide ((l1.length : Int) ≤ (rd l2 x29_1)) = true := decide_eq_true c13
               clear c13
               simp only [Option.some.injEq, Prod.mk.injEq] at H
               obtain ⟨rfl, rfl⟩ := H
               have p235 : 0 ≤ (x29_1 : Int) := of_decide_eq_true (by first | (with_reducible assumption) | assumption)
               have q235 : x29_1 < (l2.length : Int) := of_decide_eq_true (by first | (with_reducible assumption) | assumption)
               obtain ⟨ad235, e235, hx235_0⟩ := Kd.at_int HR2.out x29_1 p235 q235
               cases e235
               replace hx235_0 := (HB.out.cell (World.block_lt_of_cell? w _ hx235_0)).trans hx235_0
               replace p235 := eq_true p235
               replace q235 := eq_true q235
               go_wp2
               go_ret2
               exact ⟨_, by first | rfl | (simp [errW_none, errW_some] <;> rfl) | (simp [*, errW_none, errW_some] <;> rfl), by first | exact Kd.R_nil _ _ _ _ _ | exact Kd.N_nil _ _ _ _ _ | exact Kd.V_nil _ _ _ _ _ | exact Kd.Q_nil _ _ _ _ _ | exact Kd.S_nil _ _ _ _ _, by repeat (first | (with_reducible first | exact HB.out | apply below_alloc | apply pw_below_drewN | apply below_drew1 | refine below_set ?_ GE233.out) | exact HB.out)⟩
             · rw [if_neg c13] at H
               have c13b0 : decide ((l1.length : Int) ≤ (rd l2 x29_1)) = false := decide_eq_false c13
               clear c13
               by_cases c14 : 0 ≤ (rd l2 x29_1)
               · rw [if_pos c14] at H
                 have c14b0 : decide (0 ≤ (rd l2 x29_1)) = true := decide_eq_true c14
                 clear c14
                 by_cases c15 : (rd l2 x29_1) < (l1.length : Int)
                 · rw [if_pos c15] at H
                   have c15b0 : decide ((rd l2 x29_1) < (l1.length : Int)) = true := decide_eq_true c15
                   clear c15
                   obtain ⟨bq16, hbq16⟩ : ∃ b_ : Bool, b_ = ((rd_T32 l1 (rd l2 x29_1)).f1) := ⟨_, rfl⟩
                   replace H : (if (bq16 = true) then (tree_Arrivals.l0 k1 l1 l2 l2 (l2.length : Int) (wrap64 (x29_1 + 1)) a0_0 l0_1 l0_2) else (some (([] : List (S45)), 8))) = some (r1, r2) := by rw [← hbq16] at H; exact H
                   have Nbq16 := Aside0.mk hbq16
                   clear hbq16
                   by_cases c17 : (bq16 = true)
                   · subst c17
                     have H1 : (tree_Arrivals.l0 k1 l1 l2 l2 (l2.length : Int) (wrap64 (x29_1 + 1)) a0_0 l0_1 l0_2) = some (r1, r2) := by rw [if_pos rfl] at H; exact H
                     clear H
                     have H := H1
                     clear H1
                     have H' := Aside0.mk H
                     clear H
                     have p235 : 0 ≤ (x29_1 : Int) := of_decide_eq_true (by first | (with_reducible assumption) | assumption)
                     have q235 : x29_1 < (l2.length : Int) := of_decide_eq_true (by first | (with_reducible assumption) | assumption)
                     obtain ⟨ad235, e235, hx235_0⟩ := Kd.at_int HR2.out x29_1 p235 q235
                     cases e235
                     replace hx235_0 := (HB.out.cell (World.block_lt_of_cell? w _ hx235_0)).trans hx235_0
                     replace p235 := eq_true p235
                     replace q235 := eq_true q235
                     have p236 : 0 ≤ ((rd l2 x29_1) : Int) := of_decide_eq_true (by first | (with_reducible assumption) | assumption)
                     have q236 : (rd l2 x29_1) < (l1.length : Int) := of_decide_eq_true (by first | (with_reducible assumption) | assumption)
                     obtain ⟨ad236, A236_5, c236_5, A236_6, c236_6, A236_7, c236_7, e236, hx236_0, hx236_1, hx236_2, hx236_3, hx236_4, hx236_5, hx236_6, hx236_7, hx236_8, hx236_9, hx236_10, hl236_5, hi236_5, hl236_6, hi236_6, hl236_7, hi236_7⟩ := at_T32 HR1.out (rd l2 x29_1) p236 q236
                     (try rw [← Nbq16.out] at hx236_1)
                     cases e236
                     replace hx236_0 := (HB.out.cell (World.block_lt_of_cell? w _ hx236_0)).trans hx236_0
                     replace hx236_1 := (HB.out.cell (World.block_lt_of_cell? w _ hx236_1)).trans hx236_1
                     replace hx236_2 := (HB.out.cell (World.block_lt_of_cell? w _ hx236_2)).trans hx236_2
                     replace hx236_3 := (HB.out.cell (World.block_lt_of_cell? w _ hx236_3)).trans hx236_3
                     replace hx236_4 := (HB.out.cell (World.block_lt_of_cell? w _ hx236_4)).trans hx236_4
                     replace hx236_5 := (HB.out.cell (World.block_lt_of_cell? w _ hx236_5)).trans hx236_5
                     replace hx236_6 := (HB.out.cell (World.block_lt_of_cell? w _ hx236_6)).trans hx236_6
                     replace hx236_7 := (HB.out.cell (World.block_lt_of_cell? w _ hx236_7)).trans hx236_7
                     replace hx236_8 := (HB.out.cell (World.block_lt_of_cell? w _ hx236_8)).trans hx236_8
                     replace hx236_9 := (HB.out.cell (World.block_lt_of_cell? w _ hx236_9)).trans hx236_9
                     replace hx236_10 := (HB.out.cell (World.block_lt_of_cell? w _ hx236_10)).trans hx236_10
                     have HR236_5 := Aside0.mk hi236_5
                     have HC236_5 := Aside0.mk hl236_5
                     clear hi236_5 hl236_5
                     have HR236_6 := Aside0.mk hi236_6
                     have HC236_6 := Aside0.mk hl236_6
                     clear hi236_6 hl236_6
                     have HR236_7 := Aside0.mk hi236_7
                     have HC236_7 := Aside0.mk hl236_7
                     clear hi236_7 hl236_7
                     replace p236 := eq_true p236
                     replace q236 := eq_true q236
                     go_wp2
                     go_roundg k1
                     case measure => have := HK1.out; omega
                     case rel => exact ⟨(wrap64 (x29_1 + 1)), (by first | rfl | (simp; done) | (simp [*]; done)), H', ⟨by have := HK1.out; omega⟩, ⟨by (with_reducible repeat (first | refine blk_drewN ?_ _ | refine blk_drew ?_ | refine blk_alloc ?_ _)); exact BK233.out⟩, ⟨by repeat (first | (with_reducible first | exact HB.out | apply below_alloc | apply pw_below_drewN | apply below_drew1 | refine below_set ?_ GE233.out) | exact HB.out)⟩⟩
                   · replace c17 := Bool.eq_false_iff.mpr c17
                     subst c17
                     have H1 : (some (([] : List (S45)), 8)) = some (r1, r2) := by rw [if_neg (show ¬ (false = true) by decide)] at H; exact H
                     clear H
                     have H := H1
                     clear H1
                     simp only [Option.some.injEq, Prod.mk.injEq] at H
                     obtain ⟨rfl, rfl⟩ := H
                     have p235 : 0 ≤ (x29_1 : Int) := of_decide_eq_true (by first | (with_reducible assumption) | assumption)
                     have q235 : x29_1 < (l2.length : Int) := of_decide_eq_true (by first | (with_reducible assumption) | assumption)
                     obtain ⟨ad235, e235, hx235_0⟩ := Kd.at_int HR2.out x29_1 p235 q235
                     cases e235
                     replace hx235_0 := (HB.out.cell (World.block_lt_of_cell? w _ hx235_0)).trans hx235_0
                     replace p235 := eq_true p235
                     replace q235 := eq_true q235
                     have p236 : 0 ≤ ((rd l2 x29_1) : Int) := of_decide_eq_true (by first | (with_reducible assumption) | assumption)
                     have q236 : (rd l2 x29_1) < (l1.length : Int) := of_decide_eq_true (by first | (with_reducible assumption) | assumption)
                     obtain ⟨ad236, A236_5, c236_5, A236_6, c236_6, A236_7, c236_7, e236, hx236_0, hx236_1, hx236_2, hx236_3, hx236_4, hx236_5, hx236_6, hx236_7, hx236_8, hx236_9, hx236_10, hl236_5, hi236_5, hl236_6, hi236_6, hl236_7, hi236_7⟩ := at_T32 HR1.out (rd l2 x29_1) p236 q236
                     (try rw [← Nbq16.out] at hx236_1)
                     cases e236
                     replace hx236_0 := (HB.out.cell (World.block_lt_of_cell? w _ hx236_0)).trans hx236_0
                     replace hx236_1 := (HB.out.cell (World.block_lt_of_cell? w _ hx236_1)).trans hx236_1
                     replace hx236_2 := (HB.out.cell (World.block_lt_of_cell? w _ hx236_2)).trans hx236_2
                     replace hx236_3 := (HB.out.cell (World.block_lt_of_cell? w _ hx236_3)).trans hx236_3
                     replace hx236_4 := (HB.out.cell (World.block_lt_of_cell? w _ hx236_4)).trans hx236_4
                     replace hx236_5 := (HB.out.cell (World.block_lt_of_cell? w _ hx236_5)).trans hx236_5
                     replace hx236_6 := (HB.out.cell (World.block_lt_of_cell? w _ hx236_6)).trans hx236_6
                     replace hx236_7 := (HB.out.cell (World.block_lt_of_cell? w _ hx236_7)).trans hx236_7
                     replace hx236_8 := (HB.out.cell (World.block_lt_of_cell? w _ hx236_8)).trans hx236_8
                     replace hx236_9 := (HB.out.cell (World.block_lt_of_cell? w _ hx236_9)).trans hx236_9
                     replace hx236_10 := (HB.out.cell (World.block_lt_of_cell? w _ hx236_10)).trans hx236_10
                     have HR236_5 := Aside0.mk hi236_5
                     have HC236_5 := Aside0.mk hl236_5
                     clear hi236_5 hl236_5
                     have HR236_6 := Aside0.mk hi236_6
                     have HC236_6 := Aside0.mk hl236_6
                     clear hi236_6 hl236_6
                     have HR236_7 := Aside0.mk hi236_7
                     have HC236_7 := Aside0.mk hl236_7
                     clear hi236_7 hl236_7
                     replace p236 := eq_true p236
                     replace q236 := eq_true q236
                     go_wp2
                     go_ret2
                     exact ⟨_, by first | rfl | (simp [errW_none, errW_some] <;> rfl) | (simp [*, errW_none, errW_some] <;> rfl), by first | exact Kd.R_nil _ _ _ _ _ | exact Kd.N_nil _ _ _ _ _ | exact Kd.V_nil _ _ _ _ _ | exact Kd.Q_nil _ _ _ _ _ | exact Kd.S_nil _ _ _ _ _, by repeat (first | (with_reducible first | exact HB.out | apply below_alloc | apply pw_below_drewN | apply below_drew1 | refine below_set ?_ GE233.out) | exact HB.out)⟩
                 · rw [if_neg c15] at H
                   exact absurd H (by simp)
               · rw [if_neg c14] at H
                 exact absurd H (by simp)
         · rw [if_neg c11] at H
           exact absurd H (by simp)
       · rw [if_neg c10] at H
         exact absurd H (by simp)
     · rw [if_neg c9] at H
       have c9b0 : decide (x29_1 < (l2.length : Int)) = false := decide_eq_false c9
       clear c9
       by_cases c18 : 0 ≤ (l0_1.length : Int)
       · rw [if_pos c18] at H
         have c18b0 := eq_true c18
         have c18b1 : decide (0 ≤ (l0_1.length : Int)) = true := decide_eq_true c18
         clear c18
         by_cases c19 : ((l0_1.length : Int) : Int).toNat ≤ 17592186044416
         · rw [if_pos c19] at H
           have c19b0 := eq_true c19
           have c19b1 : decide (((l0_1.length : Int) : Int).toNat ≤ 17592186044416) = true := decide_eq_true c19
           clear c19
           obtain ⟨y237, hy237⟩ : ∃ y_ : List (S45), y_ = (List.replicate ((l0_1.length : Int) : Int).toNat z45) := ⟨_, rfl⟩
           replace H : (tree_Arrivals.l1 k1 l1 l2 y237 l0_1 (l0_1.length : Int) 0 a0_0 l0_1 l0_2) = some (r1, r2) := by first | (rw [hy237]; with_reducible exact H) | (have H2_ := (Option.bind_some _ _).symm.trans H; rw [hy237]; with_reducible exact H2_) | (have H2_ := (Option.bind_some _ _).symm.trans H; with_reducible exact H2_) | with_reducible exact H | (rw [hy237]; exact H) | exact H
           have Ny237 := Aside0.mk hy237
           clear hy237
           have H' := Aside0.mk H
           clear H
           have hcz20_0 : wr.cell? ⟨gb233, 0, none⟩ = some (.int .i64 a0_0) := (blk_cell BK233.out 0).trans rfl
           have hcz20_1 : wr.cell? ⟨gb233, 1, none⟩ = some (.slice A0_1 l0_1.length c0_1) := (blk_cell BK233.out 1).trans rfl
           have hcz20_2 : wr.cell? ⟨gb233, 2, none⟩ = some (.slice A0_2 l0_2.length c0_2) := (blk_cell BK233.out 2).trans rfl
           have hfz20_0 := blk_frozen BK233.out 0
           have hfz20_1 := blk_frozen BK233.out 1
           have hfz20_2 := blk_frozen BK233.out 2
           go_wp2_with ((with_reducible refine gate_dst (N := 53) rfl ?_); (try (refine gate_guard (by rfl) ?_; dsimp only)); refine Kd.R_make k45 _ 45 rfl (N := 53) rfl 38 _ _ rfl (l0_1.length : Int) rfl rfl Try.underlying38 (.agg #[(.int .i64 0), (.int .i64 0)]) 16 info45 rfl (by decide) (by omega) z45 (ok := fun _ => True) (okp := fun _ => True) (k45_mkM _ _ _ z45 ) (fun _ hk => hk) trivial (of_decide_eq_true (by first | (with_reducible assumption) | assumption)) (Nat.le_trans (Nat.mul_le_mul_right _ (of_decide_eq_true (by first | (with_reducible assumption) | assumption) : (l0_1.length : Int).toNat ≤ 17592186044416)) (by omega)) (Below.refl _ _) (Nat.le_refl _) ?_; intro v238 w21 ho22 hb hg_ hnew_; clear hg_ hnew_; (first | rw [← Ny237.out] at ho22 | (simp only [Int.reduceToNat] at ho22; rw [← Ny237.out] at ho22)); have n0_ := Aside0.mk (Kd.R_lower ho22 (below_size (by repeat (first | (with_reducible first | exact HB.out | apply below_alloc | apply pw_below_drewN | apply below_drew1 | refine below_set ?_ GE233.out) | exact HB.out)))); have n1_ := Aside0.mk (blk_below (g := gb233) (o := .cells #[.int .i64 a0_0, .slice A0_1 l0_1.length c0_1, .slice A0_2 l0_2.length c0_2] 24 (0, 0)) (by (with_reducible repeat (first | refine blk_drewN ?_ _ | refine blk_drew ?_ | refine blk_alloc ?_ _)); exact BK233.out) hb); have n2_ := Aside0.mk (below_step (by repeat (first | (with_reducible first | exact HB.out | apply below_alloc | apply pw_below_drewN | apply below_drew1 | refine below_set ?_ GE233.out) | exact HB.out)) hb); clear BK233; clear HB; have HO239 := n0_; have BK233 := n1_; have HB := n2_; clear n0_ n1_ n2_; clear hb ho22; have hcz23_0 : w21.cell? ⟨gb233, 0, none⟩ = some (.int .i64 a0_0) := (blk_cell BK233.out 0).trans rfl; have hcz23_1 : w21.cell? ⟨gb233, 1, none⟩ = some (.slice A0_1 l0_1.length c0_1) := (blk_cell BK233.out 1).trans rfl; have hcz23_2 : w21.cell? ⟨gb233, 2, none⟩ = some (.slice A0_2 l0_2.length c0_2) := (blk_cell BK233.out 2).trans rfl; have hfz23_0 := blk_frozen BK233.out 0; have hfz23_1 := blk_frozen BK233.out 1; have hfz23_2 := blk_frozen BK233.out 2)
           go_loopg [57] k1 (fun kq v57 w' => ∃ (x11_2 : List (S45)) (x57_2 : Int), v57 = .int .i64 x57_2 ∧ Aside0 (tree_Arrivals.l1 kq l1 l2 x11_2 l0_1 (l0_1.length : Int) x57_2 a0_0 l0_1 l0_2 = some (r1, r2)) ∧ Aside0 (kq ≤ k1) ∧ Aside0 (Kd.R k45 45 w' w.heap.size (fun _ => True) v238 x11_2) ∧ Aside0 (w'.heap[gb233]? = some (.cells #[.int .i64 a0_0, (.slice A0_1 l0_1.length c0_1), (.slice A0_2 l0_2.length c0_2)] 24 (0, 0))) ∧ Aside0 (Below w.heap.size w w'))
           case atStart => exact ⟨(y237), (0), (by first | rfl | (simp; done) | (simp [*]; done)), H', ⟨Nat.le_refl _⟩, ⟨by (with_reducible repeat (first | apply Kd.R_alloc | apply Kd.R_drewN | apply Kd.R_drew)); exact HO239.out⟩, ⟨by (with_reducible repeat (first | refine blk_drewN ?_ _ | refine blk_drew ?_ | refine blk_alloc ?_ _)); exact BK233.out⟩, ⟨by repeat (first | (with_reducible first | exact HB.out | apply below_alloc | apply pw_below_drewN | apply below_drew1 | refine below_set ?_ GE233.out) | exact HB.out)⟩⟩
           case round =>
            clear H'
            clear c9b0 c18b0 c18b1 c19b0 c19b1 hcz20_0 hcz20_1 hcz20_2 hcz23_0 hcz23_1 hcz23_2 hfz20_0 hfz20_1 hfz20_2 hfz23_0 hfz23_1 hfz23_2
            obtain ⟨x11_2, x57_2, rfl, HA, HK2, HO_11, BK233, HB⟩ := hrel
            cases gk with
            | zero => exact absurd HA.out (by simp [tree_Arrivals.l1])
            | succ k2 =>
             have H := HA.out
             clear HA
             simp only [tree_Arrivals.l1] at H
             by_cases c24 : x57_2 < (l0_1.length : Int)
             · rw [if_pos c24] at H
               have c24b0 : decide (x57_2 < (l0_1.length : Int)) = true := decide_eq_true c24
               clear c24
               by_cases c25 : 0 ≤ x57_2
               · rw [if_pos c25] at H
                 have c25b0 : decide (0 ≤ x57_2) = true := decide_eq_true c25
                 clear c25
                 by_cases c26 : x57_2 < (l0_1.length : Int)
                 · rw [if_pos c26] at H
                   have c26b0 : decide (x57_2 < (l0_1.length : Int)) = true := decide_eq_true c26
                   clear c26
                   by_cases c27 : 0 ≤ a0_0
                   · rw [if_pos c27] at H
                     have c27b0 : decide (0 ≤ a0_0) = true := decide_eq_true c27
                     clear c27
                     by_cases c28 : a0_0 < (l1.length : Int)
                     · rw [if_pos c28] at H
                       have c28b0 : decide (a0_0 < (l1.length : Int)) = true := decide_eq_true c28
                       clear c28
                       replace H := Option.bind_eq_some_iff.mp H
                       obtain ⟨t242, A290, H⟩ := H
                       replace H : (if 0 < (((rd_T32 l1 a0_0).f6).length : Int) then (if 0 < (((rd_T32 l1 a0_0).f7).length : Int) then (if x57_2 < (x11_2.length : Int) then ((some (x11_2.set (x57_2 : Int).toNat (⟨wrap64 ((rd ((rd_T32 l1 a0_0).f6) 0) + (wrap64 (((rd_T32 l1 a0_0).f8) * t242))), wrap64 ((rd ((rd_T32 l1 a0_0).f7) 0) + (wrap64 (((rd_T32 l1 a0_0).f8) * t242)))⟩ : S45) : List (S45))).bind fun y246 => (if (rd l0_1 x57_2) ≥ 0 then (if 0 ≤ (rd l0_1 x57_2) then (if (rd l0_1 x57_2) < (x11_2.length : Int) then ((some (y246.set (x57_2 : Int).toNat (⟨wrap64 (((rd_T45 y246 x57_2).f0) + ((rd_T45 y246 (rd l0_1 x57_2)).f0)), (rd_T45 y246 x57_2).f1⟩ : S45) : List (S45))).bind fun y251 => (tree_Arrivals.l1 k2 l1 l2 (y251.set (x57_2 : Int).toNat (⟨(rd_T45 y251 x57_2).f0, wrap64 (((rd_T45 y246 x57_2).f1) + ((rd_T45 y246 (rd l0_1 x57_2)).f1))⟩ : S45)) l0_1 (l0_1.length : Int) (wrap64 (x57_2 + 1)) a0_0 l0_1 l0_2)) else (none)) else (none)) else (tree_Arrivals.l1 k2 l1 l2 y246 l0_1 (l0_1.length : Int) (wrap64 (x57_2 + 1)) a0_0 l0_1 l0_2))) else (none)) else (none)) else (none)) = some (r1, r2) := H
                       have A29 := Aside0.mk A290
                       clear A290
                       by_cases c30 : 0 < (((rd_T32 l1 a0_0).f6).length : Int)
                       · rw [if_pos c30] at H
                         have c30b0 : decide (0 < (((rd_T32 l1 a0_0).f6).length : Int)) = true := decide_eq_true c30
                         have c30b1 : decide (0 < ((rd_T32 l1 a0_0).f6).length) = true := decide_eq_true (by omega)
                         clear c30
                         by_cases c31 : 0 < (((rd_T32 l1 a0_0).f7).length : Int)
                         · rw [if_pos c31] at H
                           have c31b0 : decide (0 < (((rd_T32 l1 a0_0).f7).length : Int)) = true := decide_eq_true c31
                           have c31b1 : decide (0 < ((rd_T32 l1 a0_0).f7).length) = true := decide_eq_true (by omega)
                           clear c31
                           by_cases c32 : x57_2 < (x11_2.length : Int)
                           · rw [if_pos c32] at H
                             have c32b0 : decide (x57_2 < (x11_2.length : Int)) = true := decide_eq_true c32
                             clear c32
                             obtain ⟨y246, hy246⟩ : ∃ y_ : List (S45), y_ = (x11_2.set (x57_2 : Int).toNat (⟨wrap64 ((rd ((rd_T32 l1 a0_0).f6) 0) + (wrap64 (((rd_T32 l1 a0_0).f8) * t242))), wrap64 ((rd ((rd_T32 l1 a0_0).f7) 0) + (wrap64 (((rd_T32 l1 a0_0).f8) * t242)))⟩ : S45)) := ⟨_, rfl⟩
                             replace H : (if (rd l0_1 x57_2) ≥ 0 then (if 0 ≤ (rd l0_1 x57_2) then (if (rd l0_1 x57_2) < (x11_2.length : Int) then ((some (y246.set (x57_2 : Int).toNat (⟨wrap64 (((rd_T45 y246 x57_2).f0) + ((rd_T45 y246 (rd l0_1 x57_2)).f0)), (rd_T45 y246 x57_2).f1⟩ : S45) : List (S45))).bind fun y251 => (tree_Arrivals.l1 k2 l1 l2 (y251.set (x57_2 : Int).toNat (⟨(rd_T45 y251 x57_2).f0, wrap64 (((rd_T45 y246 x57_2).f1) + ((rd_T45 y246 (rd l0_1 x57_2)).f1))⟩ : S45)) l0_1 (l0_1.length : Int) (wrap64 (x57_2 + 1)) a0_0 l0_1 l0_2)) else (none)) else (none)) else (tree_Arrivals.l1 k2 l1 l2 y246 l0_1 (l0_1.length : Int) (wrap64 (x57_2 + 1)) a0_0 l0_1 l0_2)) = some (r1, r2) := by first | (rw [hy246]; with_reducible exact H) | (have H2_ := (Option.bind_some _ _).symm.trans H; rw [hy246]; with_reducible exact H2_) | (have H2_ := (Option.bind_some _ _).symm.trans H; with_reducible exact H2_) | with_reducible exact H | (rw [hy246]; exact H) | exact H
                             have Ny246 := Aside0.mk hy246
                             clear hy246
                             by_cases c34 : (rd l0_1 x57_2) ≥ 0
                             · rw [if_pos c34] at H
                               have c34b0 : decide (0 ≤ (rd l0_1 x57_2)) = true := decide_eq_true c34
                               clear c34
                               by_cases c35 : 0 ≤ (rd l0_1 x57_2)
                               · rw [if_pos c35] at H
                                 have c35b0 : decide (0 ≤ (rd l0_1 x57_2)) = true := decide_eq_true c35
                                 clear c35
                                 by_cases c36 : (rd l0_1 x57_2) < (x11_2.length : Int)
                                 · rw [if_pos c36] at H
                                   have c36b0 : decide ((rd l0_1 x57_2) < (x11_2.length : Int)) = true := decide_eq_true c36
                                   clear c36
                                   obtain ⟨y251, hy251⟩ : ∃ y_ : List (S45), y_ = (y246.set (x57_2 : Int).toNat (⟨wrap64 (((rd_T45 y246 x57_2).f0) + ((rd_T45 y246 (rd l0_1 x57_2)).f0)), (rd_T45 y246 x57_2).f1⟩ : S45)) := ⟨_, rfl⟩
                                   replace H : (tree_Arrivals.l1 k2 l1 l2 (y251.set (x57_2 : Int).toNat (⟨(rd_T45 y251 x57_2).f0, wrap64 (((rd_T45 y246 x57_2).f1) + ((rd_T45 y246 (rd l0_1 x57_2)).f1))⟩ : S45)) l0_1 (l0_1.length : Int) (wrap64 (x57_2 + 1)) a0_0 l0_1 l0_2) = some (r1, r2) := by first | (rw [hy251]; with_reducible exact H) | (have H2_ := (Option.bind_some _ _).symm.trans H; rw [hy251]; with_reducible exact H2_) | (have H2_ := (Option.bind_some _ _).symm.trans H; with_reducible exact H2_) | with_reducible exact H | (rw [hy251]; exact H) | exact H
                                   have Ny251 := Aside0.mk hy251
                                   clear hy251
                                   obtain ⟨y252, hy252⟩ : ∃ y_ : List (S45), y_ = (y251.set (x57_2 : Int).toNat (⟨(rd_T45 y251 x57_2).f0, wrap64 (((rd_T45 y246 x57_2).f1) + ((rd_T45 y246 (rd l0_1 x57_2)).f1))⟩ : S45)) := ⟨_, rfl⟩
                                   replace H : (tree_Arrivals.l1 k2 l1 l2 y252 l0_1 (l0_1.length : Int) (wrap64 (x57_2 + 1)) a0_0 l0_1 l0_2) = some (r1, r2) := by first | (rw [hy252]; with_reducible exact H) | (have H2_ := (Option.bind_some _ _).symm.trans H; rw [hy252]; with_reducible exact H2_) | (have H2_ := (Option.bind_some _ _).symm.trans H; with_reducible exact H2_) | with_reducible exact H | (rw [hy252]; exact H) | exact H
                                   have Ny252 := Aside0.mk hy252
                                   clear hy252
                                   have H' := Aside0.mk H
                                   clear H
                                   have p240 : 0 ≤ (x57_2 : Int) := of_decide_eq_true (by first | (with_reducible assumption) | assumption)
                                   have q240 : x57_2 < (l0_1.length : Int) := of_decide_eq_true (by first | (with_reducible assumption) | assumption)
                                   obtain ⟨ad240, e240, hx240_0⟩ := Kd.at_int HR0_1.out x57_2 p240 q240
                                   cases e240
                                   replace hx240_0 := (HB.out.cell (World.block_lt_of_cell? w _ hx240_0)).trans hx240_0
                                   replace p240 := eq_true p240
                                   replace q240 := eq_true q240
                                   try go_wp2
                                   have n0_ := Aside0.mk (Kd.R_drew HO_11.out)
                                   have n1_ := Aside0.mk (blk_drew BK233.out)
                                   have n2_ := Aside0.mk (below_drew1 HB.out)
                                   clear HO_11
                                   clear BK233
                                   clear HB
                                   have HO_11 := n0_
                                   have BK233 := n1_
                                   have HB := n2_
                                   clear n0_ n1_ n2_
                                   have p241 : 0 ≤ (a0_0 : Int) := of_decide_eq_true (by first | (with_reducible assumption) | assumption)
                                   have q241 : a0_0 < (l1.length : Int) := of_decide_eq_true (by first | (with_reducible assumption) | assumption)
                                   obtain ⟨ad241, A241_5, c241_5, A241_6, c241_6, A241_7, c241_7, e241, hx241_0, hx241_1, hx241_2, hx241_3, hx241_4, hx241_5, hx241_6, hx241_7, hx241_8, hx241_9, hx241_10, hl241_5, hi241_5, hl241_6, hi241_6, hl241_7, hi241_7⟩ := at_T32 HR1.out a0_0 p241 q241
                                   have hw241_10 := hx241_10
                                   have hw241_9 := hx241_9
                                   have hw241_8 := hx241_8
                                   have hw241_7 := hx241_7
                                   have hw241_6 := hx241_6
                                   have hw241_5 := hx241_5
                                   have hw241_4 := hx241_4
                                   have hw241_3 := hx241_3
                                   have hw241_2 := hx241_2
                                   have hw241_1 := hx241_1
                                   have hw241_0 := hx241_0
                                   cases e241
                                   replace hx241_0 := (HB.out.cell (World.block_lt_of_cell? w _ hx241_0)).trans hx241_0
                                   replace hx241_1 := (HB.out.cell (World.block_lt_of_cell? w _ hx241_1)).trans hx241_1
                                   replace hx241_2 := (HB.out.cell (World.block_lt_of_cell? w _ hx241_2)).trans hx241_2
                                   replace hx241_3 := (HB.out.cell (World.block_lt_of_cell? w _ hx241_3)).trans hx241_3
                                   replace hx241_4 := (HB.out.cell (World.block_lt_of_cell? w _ hx241_4)).trans hx241_4
                                   replace hx241_5 := (HB.out.cell (World.block_lt_of_cell? w _ hx241_5)).trans hx241_5
                                   replace hx241_6 := (HB.out.cell (World.block_lt_of_cell? w _ hx241_6)).trans hx241_6
                                   replace hx241_7 := (HB.out.cell (World.block_lt_of_cell? w _ hx241_7)).trans hx241_7
                                   replace hx241_8 := (HB.out.cell (World.block_lt_of_cell? w _ hx241_8)).trans hx241_8
                                   replace hx241_9 := (HB.out.cell (World.block_lt_of_cell? w _ hx241_9)).trans hx241_9
                                   replace hx241_10 := (HB.out.cell (World.block_lt_of_cell? w _ hx241_10)).trans hx241_10
                                   have HR241_5 := Aside0.mk hi241_5
                                   have HC241_5 := Aside0.mk hl241_5
                                   clear hi241_5 hl241_5
                                   have HR241_6 := Aside0.mk hi241_6
                                   have HC241_6 := Aside0.mk hl241_6
                                   clear hi241_6 hl241_6
                                   have HR241_7 := Aside0.mk hi241_7
                                   have HC241_7 := Aside0.mk hl241_7
                                   clear hi241_7 hl241_7
                                   replace p241 := eq_true p241
                                   replace q241 := eq_true q241
                                   refine start_ (n := 13) (S := fun w' => w'.cell? ⟨gb233, 0, none⟩ = some (.int .i64 a0_0) ∧ w'.cell? ⟨gb233, 1, none⟩ = some (.slice (some ad240) l0_1.length c0_1) ∧ w'.cell? ⟨gb233, 2, none⟩ = some (.slice A0_2 l0_2.length c0_2) ∧ w'.cell? (ad241.add ((a0_0).toNat * 11)) = some (.string ((rd_T32 l1 a0_0).f0)) ∧ w'.cell? ⟨(ad241.add ((a0_0).toNat * 11)).block, (ad241.add ((a0_0).toNat * 11)).off + 1, none⟩ = some (.bool ((rd_T32 l1 a0_0).f1)) ∧ w'.cell? ⟨(ad241.add ((a0_0).toNat * 11)).block, (ad241.add ((a0_0).toNat * 11)).off + 2, none⟩ = some (.int .i64 ((rd_T32 l1 a0_0).f2)) ∧ w'.cell? ⟨(ad241.add ((a0_0).toNat * 11)).block, (ad241.add ((a0_0).toNat * 11)).off + 3, none⟩ = some (.int .u64 ((rd_T32 l1 a0_0).f3)) ∧ w'.cell? ⟨(ad241.add ((a0_0).toNat * 11)).block, (ad241.add ((a0_0).toNat * 11)).off + 4, none⟩ = some (.int .i64 ((rd_T32 l1 a0_0).f4)) ∧ w'.cell? ⟨(ad241.add ((a0_0).toNat * 11)).block, (ad241.add ((a0_0).toNat * 11)).off + 5, none⟩ = some (.slice A241_5 ((rd_T32 l1 a0_0).f5).length c241_5) ∧ w'.cell? ⟨(ad241.add ((a0_0).toNat * 11)).block, (ad241.add ((a0_0).toNat * 11)).off + 6, none⟩ = some (.slice A241_6 ((rd_T32 l1 a0_0).f6).length c241_6) ∧ w'.cell? ⟨(ad241.add ((a0_0).toNat * 11)).block, (ad241.add ((a0_0).toNat * 11)).off + 7, none⟩ = some (.slice A241_7 ((rd_T32 l1 a0_0).f7).length c241_7) ∧ w'.cell? ⟨(ad241.add ((a0_0).toNat * 11)).block, (ad241.add ((a0_0).toNat * 11)).off + 8, none⟩ = some (.int .i64 ((rd_T32 l1 a0_0).f8)) ∧ w'.cell? ⟨(ad241.add ((a0_0).toNat * 11)).block, (ad241.add ((a0_0).toNat * 11)).off + 9, none⟩ = some (.int .i64 ((rd_T32 l1 a0_0).f9)) ∧ w'.cell? ⟨(ad241.add ((a0_0).toNat * 11)).block, (ad241.add ((a0_0).toNat * 11)).off + 10, none⟩ = some (.int .i64 ((rd_T32 l1 a0_0).f10))) (ds := []) (zb 0 13) (by kernel_rfl) rfl rfl ⟨(blk_cell BK233.out 0).trans rfl, (blk_cell BK233.out 1).trans rfl, (blk_cell BK233.out 2).trans rfl, ((HB.out.cell (World.block_lt_of_cell? w _ hw241_0)).trans hw241_0), ((HB.out.cell (World.block_lt_of_cell? w _ hw241_1)).trans hw241_1), ((HB.out.cell (World.block_lt_of_cell? w _ hw241_2)).trans hw241_2), ((HB.out.cell (World.block_lt_of_cell? w _ hw241_3)).trans hw241_3), ((HB.out.cell (World.block_lt_of_cell? w _ hw241_4)).trans hw241_4), ((HB.out.cell (World.block_lt_of_cell? w _ hw241_5)).trans hw241_5), ((HB.out.cell (World.block_lt_of_cell? w _ hw241_6)).trans hw241_6), ((HB.out.cell (World.block_lt_of_cell? w _ hw241_7)).trans hw241_7), ((HB.out.cell (World.block_lt_of_cell? w _ hw241_8)).trans hw241_8), ((HB.out.cell (World.block_lt_of_cell? w _ hw241_9)).trans hw241_9), ((HB.out.cell (World.block_lt_of_cell? w _ hw241_10)).trans hw241_10)⟩ (fun hHeld => ?_); refine with_tabW tree_Arrivals.tab14 tree_Arrivals.bits14 (fun HT_ HW_ => ?_)
                                   generalize wr.drew = w39 at HO_11 BK233 HB HR241_5 HR241_6 HR241_7 hx241_0 hx241_1 hx241_10 hx241_2 hx241_3 hx241_4 hx241_5 hx241_6 hx241_7 hx241_8 hx241_9 hHeld ⊢
                                   refine pure_ (i := 0) (N := some 62) (v := ?_) (a' := ?_) (zb 1 12) rfl rfl (any_of HT_.out (by kernel_rfl)) (fun _ _ _ h => h) (Or.inl ⟨by rfl, ?_⟩) ?_ ?_
                                   rotate_left; focus (intro w'; go_simp; with_reducible rfl)
                                   rotate_left; focus (simp only [Act.put, z1, z2, z3, i64_w, i32_w]; rfl)
                                   refine pure_ (i := 1) (N := some 63) (v := ?_) (a' := ?_) (zb 2 11) rfl rfl (any_of HT_.out (by kernel_rfl)) (fun _ _ _ h => h) (Or.inl ⟨by rfl, ?_⟩) ?_ ?_
                                   rotate_left; focus (intro w'; go_simp; with_reducible rfl)
                                   rotate_left; focus (simp only [Act.put, z1, z2, z3, i64_w, i32_w]; rfl)
                                   refine pure_ (i := 6) (N := some 68) (v := ?_) (a' := ?_) #[true,true,false,false,false,false,true,false,false,false,false,false,false] rfl rfl (any_of HT_.out (by kernel_rfl)) (fun _ _ _ h => h) (Or.inl ⟨by rfl, ?_⟩) ?_ ?_
                                   rotate_left; focus (intro w'; go_simp; with_reducible rfl)
                                   rotate_left; focus (simp only [Act.put, z1, z2, z3, i64_w, i32_w]; rfl)
                                   refine pure_ (i := 7) (N := some 69) (v := ?_) (a' := ?_) #[true,true,false,false,false,false,true,true,false,false,false,false,false] rfl rfl (any_of HT_.out (by kernel_rfl)) (fun _ _ _ h => h) (Or.inl ⟨by rfl, ?_⟩) ?_ ?_
                                   rotate_left; focus (intro w'; go_simp; with_reducible rfl)
                                   rotate_left; focus (simp only [Act.put, z1, z2, z3, i64_w, i32_w]; rfl)
                                   refine pure_ (i := 8) (N := some 70) (v := ?_) (a' := ?_) #[true,true,false,false,false,false,true,true,true,false,false,false,false] rfl rfl (any_of HT_.out (by kernel_rfl)) (fun _ _ _ h => h) (Or.inl ⟨by rfl, ?_⟩) ?_ ?_
                                   rotate_left; focus (intro w'; go_simp; with_reducible rfl)
                                   rotate_left; focus (simp only [Act.put, z1, z2, z3, i64_w, i32_w]; rfl)
                                   refine take_ (i := 2) (N := some 64) (v := ?_) (a' := ?_) #[true,true,true,false,false,false,true,true,true,false,false,false,false] rfl rfl (take_ofW HT_.out HW_.out (by kernel_rfl)) (fun _ _ _ h => h) (Or.inl ⟨by rfl, ?_⟩) hHeld ?_ ?_
                                   rotate_left
                                   · rintro w' ⟨s0, s1, s2, s3, s4, s5, s6, s7, s8, s9, s10, s11, s12, s13⟩
                                     go_simp
                                     with_reducible rfl
                                   rotate_left; focus (simp only [Act.put, z1, z2, z3, i64_w, i32_w]; rfl)
                                   refine pure_ (i := 3) (N := some 65) (v := ?_) (a' := ?_) #[true,true,true,true,false,false,true,true,true,false,false,false,false] rfl rfl (any_of HT_.out (by kernel_rfl)) (fun _ _ _ h => h) (Or.inl ⟨by rfl, ?_⟩) ?_ ?_
                                   rotate_left; focus (intro w'; go_simp; with_reducible rfl)
                                   rotate_left; focus (simp only [Act.put, z1, z2, z3, i64_w, i32_w]; rfl)
                                   refine take_ (i := 4) (N := some 66) (v := ?_) (a' := ?_) #[true,true,true,true,true,false,true,true,true,false,false,false,false] rfl rfl (take_ofW HT_.out HW_.out (by kernel_rfl)) (fun _ _ _ h => h) (Or.inl ⟨by rfl, ?_⟩) hHeld ?_ ?_
                                   rotate_left
                                   · rintro w' ⟨s0, s1, s2, s3, s4, s5, s6, s7, s8, s9, s10, s11, s12, s13⟩
                                     go_simp
                                     with_reducible rfl
                                   rotate_left; focus (simp only [Act.put, z1, z2, z3, i64_w, i32_w]; rfl)
                                   refine take_ (i := 5) (N := some 67) (v := ?_) (a' := ?_) (zb 9 4) rfl rfl (take_ofW HT_.out HW_.out (by kernel_rfl)) (fun _ _ _ h => h) (Or.inl ⟨by rfl, ?_⟩) hHeld ?_ ?_
                                   rotate_left
                                   · rintro w' ⟨s0, s1, s2, s3, s4, s5, s6, s7, s8, s9, s10, s11, s12, s13⟩
                                     go_simp
                                     with_reducible rfl
                                   rotate_left; focus (simp only [Act.put, z1, z2, z3, i64_w, i32_w]; rfl)
                                   refine join_ (σ := Nat) 2 (zb 11 2) (fun s_ => [(71, .int .i64 t242), (14, .pointer (some ⟨s_, 0, none⟩))]) (fun s_ w' => (w'.cell? ⟨gb233, 0, none⟩ = some (.int .i64 a0_0) ∧ w'.cell? ⟨gb233, 1, none⟩ = some (.slice (some ad240) l0_1.length c0_1) ∧ w'.cell? ⟨gb233, 2, none⟩ = some (.slice A0_2 l0_2.length c0_2) ∧ w'.cell? (ad241.add ((a0_0).toNat * 11)) = some (.string ((rd_T32 l1 a0_0).f0)) ∧ w'.cell? ⟨(ad241.add ((a0_0).toNat * 11)).block, (ad241.add ((a0_0).toNat * 11)).off + 1, none⟩ = some (.bool ((rd_T32 l1 a0_0).f1)) ∧ w'.cell? ⟨(ad241.add ((a0_0).toNat * 11)).block, (ad241.add ((a0_0).toNat * 11)).off + 2, none⟩ = some (.int .i64 ((rd_T32 l1 a0_0).f2)) ∧ w'.cell? ⟨(ad241.add ((a0_0).toNat * 11)).block, (ad241.add ((a0_0).toNat * 11)).off + 3, none⟩ = some (.int .u64 ((rd_T32 l1 a0_0).f3)) ∧ w'.cell? ⟨(ad241.add ((a0_0).toNat * 11)).block, (ad241.add ((a0_0).toNat * 11)).off + 4, none⟩ = some (.int .i64 ((rd_T32 l1 a0_0).f4)) ∧ w'.cell? ⟨(ad241.add ((a0_0).toNat * 11)).block, (ad241.add ((a0_0).toNat * 11)).off + 5, none⟩ = some (.slice A241_5 ((rd_T32 l1 a0_0).f5).length c241_5) ∧ w'.cell? ⟨(ad241.add ((a0_0).toNat * 11)).block, (ad241.add ((a0_0).toNat * 11)).off + 6, none⟩ = some (.slice A241_6 ((rd_T32 l1 a0_0).f6).length c241_6) ∧ w'.cell? ⟨(ad241.add ((a0_0).toNat * 11)).block, (ad241.add ((a0_0).toNat * 11)).off + 7, none⟩ = some (.slice A241_7 ((rd_T32 l1 a0_0).f7).length c241_7) ∧ w'.cell? ⟨(ad241.add ((a0_0).toNat * 11)).block, (ad241.add ((a0_0).toNat * 11)).off + 8, none⟩ = some (.int .i64 ((rd_T32 l1 a0_0).f8)) ∧ w'.cell? ⟨(ad241.add ((a0_0).toNat * 11)).block, (ad241.add ((a0_0).toNat * 11)).off + 9, none⟩ = some (.int .i64 ((rd_T32 l1 a0_0).f9)) ∧ w'.cell? ⟨(ad241.add ((a0_0).toNat * 11)).block, (ad241.add ((a0_0).toNat * 11)).off + 10, none⟩ = some (.int .i64 ((rd_T32 l1 a0_0).f10))) ∧ (Kd.R k45 45 w' w.heap.size (fun _ => True) v238 x11_2) ∧ (w'.heap[gb233]? = some (.cells #[.int .i64 a0_0, .slice (some ad240) l0_1.length c0_1, .slice A0_2 l0_2.length c0_2] 24 (0, 0))) ∧ (w'.heap[s_]? = some (.cells #[.string (⟨#[]⟩ : ByteArray), .bool false, .int .i64 0, .int .u64 0, .int .i64 0, .slice none 0 0, .slice none 0 0, .slice none 0 0, .int .i64 0, .int .i64 0, .int .i64 0] 32 (0, 0))) ∧ (w.heap.size ≤ s_) ∧ (w.heap.size ≤ s_) ∧ (gb233 ≠ s_) ∧ (s_ ≠ gb233) ∧ (Below w.heap.size w w')) ?_ ?_
                                   rotate_left
                                   · intro hCont
                                     refine two_ (i := 9) (j := 10) (Ni := some 71) (Nj := some 14) (zb 10 3) #[true,true,true,true,true,true,true,true,true,false,true,false,false] rfl rfl rfl rfl (two_of HT_.out (by kernel_rfl)) (by decide) (by decide) (fun K hK => ?_) (fun K hK => ?_)
                                     · skip
                                       refine goes_ Try.func21 (by kernel_rfl) rfl #[.agg #[.int .i64 a0_0, .slice (some ad240) l0_1.length c0_1, .slice A0_2 l0_2.length c0_2], .int .i64 x57_2, .slice (some ad241) l1.length c1, .slice A2 l2.length c2] (by rfl) rfl rfl (by (try simp only [List.map_toArray, List.map_cons, List.map_nil]); first | done | rfl | (simp only [List.length_drop, List.length_take]; rfl)) ?_
                                       with_reducible refine (tree_Load.calls k2 a0_0 _ _ l0_1 _ _ l0_2 x57_2 _ _ l1 _ _ l2 t242 _ ?side1 ?side2 ?side3 ?side4 ?side5 ?side6 ?side7 ?side8 A29.out).mono ?_
                                       (case side1 => repeat (first | exact (Kd.C_below HR0_1.out HB.out) | (with_reducible refine Kd.C_alloc ?_ _) | (with_reducible refine Kd.C_drewN ?_ _) | (with_reducible refine Kd.C_drew ?_)))
                                       (case side2 => exact HC0_1.out)
                                       (case side3 => repeat (first | exact (Kd.C_below HR0_2.out HB.out) | (with_reducible refine Kd.C_alloc ?_ _) | (with_reducible refine Kd.C_drewN ?_ _) | (with_reducible refine Kd.C_drew ?_)))
                                       (case side4 => exact HC0_2.out)
                                       (case side5 => repeat (first | exact (Kd.C_below HR1.out HB.out) | (with_reducible refine Kd.C_alloc ?_ _) | (with_reducible refine Kd.C_drewN ?_ _) | (with_reducible refine Kd.C_drew ?_)))
                                       (case side6 => exact HC1.out)
                                       (case side7 => repeat (first | exact (Kd.C_below HR2.out HB.out) | (with_reducible refine Kd.C_alloc ?_ _) | (with_reducible refine Kd.C_drewN ?_ _) | (with_reducible refine Kd.C_drew ?_)))
                                       (case side8 => exact HC2.out)
                                       rintro e w40 ⟨rfl, hb⟩
                                       refine ⟨_, rfl, ?_⟩
                                       have n0_ := Aside0.mk (Kd.R_below (by (with_reducible repeat (first | apply Kd.R_alloc | apply Kd.R_drewN | apply Kd.R_drew)); exact HO_11.out) hb)
                                       have n1_ := Aside0.mk (blk_below (g := gb233) (o := .cells #[.int .i64 a0_0, .slice (some ad240) l0_1.length c0_1, .slice A0_2 l0_2.length c0_2] 24 (0, 0)) (by (with_reducible repeat (first | refine blk_drewN ?_ _ | refine blk_drew ?_ | refine blk_alloc ?_ _)); exact BK233.out) hb)
                                       have n2_ := Aside0.mk (below_step (by repeat (first | (with_reducible first | exact HB.out | apply below_alloc | apply pw_below_drewN | apply below_drew1 | refine below_set ?_ GE233.out) | exact HB.out)) hb)
                                       clear HO_11
                                       clear BK233
                                       clear HB
                                       have HO_11 := n0_
                                       have BK233 := n1_
                                       have HB := n2_
                                       clear n0_ n1_ n2_
                                       (try clear hb)
                                       (try clear hb2)
                                       (try clear hk)
                                       (try clear hi)
                                       refine hK.out _ _ ⟨(blk_cell BK233.out 0).trans rfl, (blk_cell BK233.out 1).trans rfl, (blk_cell BK233.out 2).trans rfl, ((HB.out.cell (World.block_lt_of_cell? w _ hw241_0)).trans hw241_0), ((HB.out.cell (World.block_lt_of_cell? w _ hw241_1)).trans hw241_1), ((HB.out.cell (World.block_lt_of_cell? w _ hw241_2)).trans hw241_2), ((HB.out.cell (World.block_lt_of_cell? w _ hw241_3)).trans hw241_3), ((HB.out.cell (World.block_lt_of_cell? w _ hw241_4)).trans hw241_4), ((HB.out.cell (World.block_lt_of_cell? w _ hw241_5)).trans hw241_5), ((HB.out.cell (World.block_lt_of_cell? w _ hw241_6)).trans hw241_6), ((HB.out.cell (World.block_lt_of_cell? w _ hw241_7)).trans hw241_7), ((HB.out.cell (World.block_lt_of_cell? w _ hw241_8)).trans hw241_8), ((HB.out.cell (World.block_lt_of_cell? w _ hw241_9)).trans hw241_9), ((HB.out.cell (World.block_lt_of_cell? w _ hw241_10)).trans hw241_10)⟩ (fun hHeld => ?_)
                                       clear hK K
                                       refine norm_ (a' := ?_) ?_ ?_
                                       rotate_left; focus (show Act.put _ (some 71) _ = _; simp only [Act.put, z1, z2, z3, i64_w, i32_w]; rfl)
                                       refine one_ (i := 10) (N := some 14) (zb 11 2) rfl rfl (one_of HT_.out (by kernel_rfl)) (by decide) (fun K hK => ?_)
                                       refine box_step ?hg (N := 14) ?hd (cs := #[.string (⟨#[]⟩ : ByteArray), .bool false, .int .i64 0, .int .u64 0, .int .i64 0, .slice none 0 0, .slice none 0 0, .slice none 0 0, .int .i64 0, .int .i64 0, .int .i64 0]) (t := 32) ?hr ?_; (case hd => rfl); (case hg => rfl); (case hr => first | (go_simp; done) | (go_simp; rfl))
                                       intro gb243 hg w41 hbox hb
                                       have n0_ := Aside0.mk (Kd.R_below (by (with_reducible repeat (first | apply Kd.R_alloc | apply Kd.R_drewN | apply Kd.R_drew)); exact HO_11.out) hb)
                                       have n1_ := Aside0.mk (blk_below (g := gb233) (o := .cells #[.int .i64 a0_0, .slice (some ad240) l0_1.length c0_1, .slice A0_2 l0_2.length c0_2] 24 (0, 0)) (by (with_reducible repeat (first | refine blk_drewN ?_ _ | refine blk_drew ?_ | refine blk_alloc ?_ _)); exact BK233.out) hb)
                                       have n2_ := Aside0.mk (below_step (by repeat (first | (with_reducible first | exact HB.out | apply below_alloc | apply pw_below_drewN | apply below_drew1 | refine below_set ?_ GE233.out) | exact HB.out)) hb)
                                       have n3_ := Aside0.mk (hbox)
                                       have n4_ := Aside0.mk ((by rw [hg]; exact (below_size (by repeat (first | (with_reducible first | exact HB.out | apply below_alloc | apply pw_below_drewN | apply below_drew1 | refine below_set ?_ GE233.out) | exact HB.out))) : w.heap.size ≤ gb243))
                                       have n5_ := Aside0.mk ((by rw [hg]; exact (below_size (by repeat (first | (with_reducible first | exact HB.out | apply below_alloc | apply pw_below_drewN | apply below_drew1 | refine below_set ?_ GE233.out) | exact HB.out))) : w.heap.size ≤ gb243))
                                       have n6_ := Aside0.mk ((by rw [hg]; exact Nat.ne_of_lt (blk_lt (g := gb233) (o := .cells #[.int .i64 a0_0, .slice (some ad240) l0_1.length c0_1, .slice A0_2 l0_2.length c0_2] 24 (0, 0)) (by (with_reducible repeat (first | refine blk_drewN ?_ _ | refine blk_drew ?_ | refine blk_alloc ?_ _)); exact BK233.out)) : gb233 ≠ gb243))
                                       have n7_ := Aside0.mk ((by rw [hg]; exact Nat.ne_of_gt (blk_lt (g := gb233) (o := .cells #[.int .i64 a0_0, .slice (some ad240) l0_1.length c0_1, .slice A0_2 l0_2.length c0_2] 24 (0, 0)) (by (with_reducible repeat (first | refine blk_drewN ?_ _ | refine blk_drew ?_ | refine blk_alloc ?_ _)); exact BK233.out)) : gb243 ≠ gb233))
                                       clear HO_11
                                       clear BK233
                                       clear HB
                                       have HO_11 := n0_
                                       have BK233 := n1_
                                       have HB := n2_
                                       have BK243 := n3_
                                       have GW243 := n4_
                                       have GE243 := n5_
                                       have NB233_243 := n6_
                                       have NB243_233 := n7_
                                       clear n0_ n1_ n2_ n3_ n4_ n5_ n6_ n7_
                                       clear hb hbox hg
                                       refine hK.out _ _ ⟨(blk_cell BK233.out 0).trans rfl, (blk_cell BK233.out 1).trans rfl, (blk_cell BK233.out 2).trans rfl, ((HB.out.cell (World.block_lt_of_cell? w _ hw241_0)).trans hw241_0), ((HB.out.cell (World.block_lt_of_cell? w _ hw241_1)).trans hw241_1), ((HB.out.cell (World.block_lt_of_cell? w _ hw241_2)).trans hw241_2), ((HB.out.cell (World.block_lt_of_cell? w _ hw241_3)).trans hw241_3), ((HB.out.cell (World.block_lt_of_cell? w _ hw241_4)).trans hw241_4), ((HB.out.cell (World.block_lt_of_cell? w _ hw241_5)).trans hw241_5), ((HB.out.cell (World.block_lt_of_cell? w _ hw241_6)).trans hw241_6), ((HB.out.cell (World.block_lt_of_cell? w _ hw241_7)).trans hw241_7), ((HB.out.cell (World.block_lt_of_cell? w _ hw241_8)).trans hw241_8), ((HB.out.cell (World.block_lt_of_cell? w _ hw241_9)).trans hw241_9), ((HB.out.cell (World.block_lt_of_cell? w _ hw241_10)).trans hw241_10)⟩ (fun hHeld => ?_)
                                       clear hK K
                                       refine norm_ (a' := ?_) ?_ ?_
                                       rotate_left; focus (show Act.put _ (some 14) _ = _; simp only [Act.put, z1, z2, z3, i64_w, i32_w]; rfl)
                                       exact norm_ (by simp only [putAll, Act.put, z1, z2, z3]) (hCont (gb243) _ ⟨hHeld, (by (with_reducible repeat (first | apply Kd.R_alloc | apply Kd.R_drewN | apply Kd.R_drew)); exact HO_11.out), (by (with_reducible repeat (first | refine blk_drewN ?_ _ | refine blk_drew ?_ | refine blk_alloc ?_ _)); exact BK233.out), (by (with_reducible repeat (first | refine blk_drewN ?_ _ | refine blk_drew ?_ | refine blk_alloc ?_ _)); exact BK243.out), GW243.out, GE243.out, NB233_243.out, NB243_233.out, (by repeat (first | (with_reducible first | exact HB.out | apply below_alloc | apply pw_below_drewN | apply below_drew1 | refine below_set ?_ GE233.out | refine below_set ?_ GE243.out) | exact HB.out))⟩)
                                     · skip
                                       refine box_step ?hg (N := 14) ?hd (cs := #[.string (⟨#[]⟩ : ByteArray), .bool false, .int .i64 0, .int .u64 0, .int .i64 0, .slice none 0 0, .slice none 0 0, .slice none 0 0, .int .i64 0, .int .i64 0, .int .i64 0]) (t := 32) ?hr ?_; (case hd => rfl); (case hg => rfl); (case hr => first | (go_simp; done) | (go_simp; rfl))
                                       intro gb243 hg w40 hbox hb
                                       have n0_ := Aside0.mk (Kd.R_below (by (with_reducible repeat (first | apply Kd.R_alloc | apply Kd.R_drewN | apply Kd.R_drew)); exact HO_11.out) hb)
                                       have n1_ := Aside0.mk (blk_below (g := gb233) (o := .cells #[.int .i64 a0_0, .slice (some ad240) l0_1.length c0_1, .slice A0_2 l0_2.length c0_2] 24 (0, 0)) (by (with_reducible repeat (first | refine blk_drewN ?_ _ | refine blk_drew ?_ | refine blk_alloc ?_ _)); exact BK233.out) hb)
                                       have n2_ := Aside0.mk (below_step (by repeat (first | (with_reducible first | exact HB.out | apply below_alloc | apply pw_below_drewN | apply below_drew1 | refine below_set ?_ GE233.out) | exact HB.out)) hb)
                                       have n3_ := Aside0.mk (hbox)
                                       have n4_ := Aside0.mk ((by rw [hg]; exact (below_size (by repeat (first | (with_reducible first | exact HB.out | apply below_alloc | apply pw_below_drewN | apply below_drew1 | refine below_set ?_ GE233.out) | exact HB.out))) : w.heap.size ≤ gb243))
                                       have n5_ := Aside0.mk ((by rw [hg]; exact (below_size (by repeat (first | (with_reducible first | exact HB.out | apply below_alloc | apply pw_below_drewN | apply below_drew1 | refine below_set ?_ GE233.out) | exact HB.out))) : w.heap.size ≤ gb243))
                                       have n6_ := Aside0.mk ((by rw [hg]; exact Nat.ne_of_lt (blk_lt (g := gb233) (o := .cells #[.int .i64 a0_0, .slice (some ad240) l0_1.length c0_1, .slice A0_2 l0_2.length c0_2] 24 (0, 0)) (by (with_reducible repeat (first | refine blk_drewN ?_ _ | refine blk_drew ?_ | refine blk_alloc ?_ _)); exact BK233.out)) : gb233 ≠ gb243))
                                       have n7_ := Aside0.mk ((by rw [hg]; exact Nat.ne_of_gt (blk_lt (g := gb233) (o := .cells #[.int .i64 a0_0, .slice (some ad240) l0_1.length c0_1, .slice A0_2 l0_2.length c0_2] 24 (0, 0)) (by (with_reducible repeat (first | refine blk_drewN ?_ _ | refine blk_drew ?_ | refine blk_alloc ?_ _)); exact BK233.out)) : gb243 ≠ gb233))
                                       clear HO_11
                                       clear BK233
                                       clear HB
                                       have HO_11 := n0_
                                       have BK233 := n1_
                                       have HB := n2_
                                       have BK243 := n3_
                                       have GW243 := n4_
                                       have GE243 := n5_
                                       have NB233_243 := n6_
                                       have NB243_233 := n7_
                                       clear n0_ n1_ n2_ n3_ n4_ n5_ n6_ n7_
                                       clear hb hbox hg
                                       refine hK.out _ _ ⟨(blk_cell BK233.out 0).trans rfl, (blk_cell BK233.out 1).trans rfl, (blk_cell BK233.out 2).trans rfl, ((HB.out.cell (World.block_lt_of_cell? w _ hw241_0)).trans hw241_0), ((HB.out.cell (World.block_lt_of_cell? w _ hw241_1)).trans hw241_1), ((HB.out.cell (World.block_lt_of_cell? w _ hw241_2)).trans hw241_2), ((HB.out.cell (World.block_lt_of_cell? w _ hw241_3)).trans hw241_3), ((HB.out.cell (World.block_lt_of_cell? w _ hw241_4)).trans hw241_4), ((HB.out.cell (World.block_lt_of_cell? w _ hw241_5)).trans hw241_5), ((HB.out.cell (World.block_lt_of_cell? w _ hw241_6)).trans hw241_6), ((HB.out.cell (World.block_lt_of_cell? w _ hw241_7)).trans hw241_7), ((HB.out.cell (World.block_lt_of_cell? w _ hw241_8)).trans hw241_8), ((HB.out.cell (World.block_lt_of_cell? w _ hw241_9)).trans hw241_9), ((HB.out.cell (World.block_lt_of_cell? w _ hw241_10)).trans hw241_10)⟩ (fun hHeld => ?_)
                                       clear hK K
                                       refine norm_ (a' := ?_) ?_ ?_
                                       rotate_left; focus (show Act.put _ (some 14) _ = _; simp only [Act.put, z1, z2, z3, i64_w, i32_w]; rfl)
                                       refine one_ (i := 9) (N := some 71) (zb 11 2) rfl rfl (one_of HT_.out (by kernel_rfl)) (by decide) (fun K hK => ?_)
                                       refine goes_ Try.func21 (by kernel_rfl) rfl #[.agg #[.int .i64 a0_0, .slice (some ad240) l0_1.length c0_1, .slice A0_2 l0_2.length c0_2], .int .i64 x57_2, .slice (some ad241) l1.length c1, .slice A2 l2.length c2] (by rfl) rfl rfl (by (try simp only [List.map_toArray, List.map_cons, List.map_nil]); first | done | rfl | (simp only [List.length_drop, List.length_take]; rfl)) ?_
                                       with_reducible refine (tree_Load.calls k2 a0_0 _ _ l0_1 _ _ l0_2 x57_2 _ _ l1 _ _ l2 t242 _ ?side1 ?side2 ?side3 ?side4 ?side5 ?side6 ?side7 ?side8 A29.out).mono ?_
                                       (case side1 => repeat (first | exact (Kd.C_below HR0_1.out HB.out) | (with_reducible refine Kd.C_alloc ?_ _) | (with_reducible refine Kd.C_drewN ?_ _) | (with_reducible refine Kd.C_drew ?_)))
                                       (case side2 => exact HC0_1.out)
                                       (case side3 => repeat (first | exact (Kd.C_below HR0_2.out HB.out) | (with_reducible refine Kd.C_alloc ?_ _) | (with_reducible refine Kd.C_drewN ?_ _) | (with_reducible refine Kd.C_drew ?_)))
                                       (case side4 => exact HC0_2.out)
                                       (case side5 => repeat (first | exact (Kd.C_below HR1.out HB.out) | (with_reducible refine Kd.C_alloc ?_ _) | (with_reducible refine Kd.C_drewN ?_ _) | (with_reducible refine Kd.C_drew ?_)))
                                       (case side6 => exact HC1.out)
                                       (case side7 => repeat (first | exact (Kd.C_below HR2.out HB.out) | (with_reducible refine Kd.C_alloc ?_ _) | (with_reducible refine Kd.C_drewN ?_ _) | (with_reducible refine Kd.C_drew ?_)))
                                       (case side8 => exact HC2.out)
                                       rintro e w41 ⟨rfl, hb⟩
                                       refine ⟨_, rfl, ?_⟩
                                       have n0_ := Aside0.mk (Kd.R_below (by (with_reducible repeat (first | apply Kd.R_alloc | apply Kd.R_drewN | apply Kd.R_drew)); exact HO_11.out) hb)
                                       have n1_ := Aside0.mk (blk_below (g := gb233) (o := .cells #[.int .i64 a0_0, .slice (some ad240) l0_1.length c0_1, .slice A0_2 l0_2.length c0_2] 24 (0, 0)) (by (with_reducible repeat (first | refine blk_drewN ?_ _ | refine blk_drew ?_ | refine blk_alloc ?_ _)); exact BK233.out) hb)
                                       have n2_ := Aside0.mk (blk_below (g := gb243) (o := .cells #[.string (⟨#[]⟩ : ByteArray), .bool false, .int .i64 0, .int .u64 0, .int .i64 0, .slice none 0 0, .slice none 0 0, .slice none 0 0, .int .i64 0, .int .i64 0, .int .i64 0] 32 (0, 0)) (by (with_reducible repeat (first | refine blk_drewN ?_ _ | refine blk_drew ?_ | refine blk_alloc ?_ _)); exact BK243.out) hb)
                                       have n3_ := Aside0.mk (below_step (by repeat (first | (with_reducible first | exact HB.out | apply below_alloc | apply pw_below_drewN | apply below_drew1 | refine below_set ?_ GE233.out | refine below_set ?_ GE243.out) | exact HB.out)) hb)
                                       clear HO_11
                                       clear BK233
                                       clear BK243
                                       clear HB
                                       have HO_11 := n0_
                                       have BK233 := n1_
                                       have BK243 := n2_
                                       have HB := n3_
                                       clear n0_ n1_ n2_ n3_
                                       (try clear hb)
                                       (try clear hb2)
                                       (try clear hk)
                                       (try clear hi)
                                       refine hK.out _ _ ⟨(blk_cell BK233.out 0).trans rfl, (blk_cell BK233.out 1).trans rfl, (blk_cell BK233.out 2).trans rfl, ((HB.out.cell (World.block_lt_of_cell? w _ hw241_0)).trans hw241_0), ((HB.out.cell (World.block_lt_of_cell? w _ hw241_1)).trans hw241_1), ((HB.out.cell (World.block_lt_of_cell? w _ hw241_2)).trans hw241_2), ((HB.out.cell (World.block_lt_of_cell? w _ hw241_3)).trans hw241_3), ((HB.out.cell (World.block_lt_of_cell? w _ hw241_4)).trans hw241_4), ((HB.out.cell (World.block_lt_of_cell? w _ hw241_5)).trans hw241_5), ((HB.out.cell (World.block_lt_of_cell? w _ hw241_6)).trans hw241_6), ((HB.out.cell (World.block_lt_of_cell? w _ hw241_7)).trans hw241_7), ((HB.out.cell (World.block_lt_of_cell? w _ hw241_8)).trans hw241_8), ((HB.out.cell (World.block_lt_of_cell? w _ hw241_9)).trans hw241_9), ((HB.out.cell (World.block_lt_of_cell? w _ hw241_10)).trans hw241_10)⟩ (fun hHeld => ?_)
                                       clear hK K
                                       refine norm_ (a' := ?_) ?_ ?_
                                       rotate_left; focus (show Act.put _ (some 71) _ = _; simp only [Act.put, z1, z2, z3, i64_w, i32_w]; rfl)
                                       exact norm_ (by simp only [putAll, Act.put, z1, z2, z3]) (hCont (gb243) _ ⟨hHeld, (by (with_reducible repeat (first | apply Kd.R_alloc | apply Kd.R_drewN | apply Kd.R_drew)); exact HO_11.out), (by (with_reducible repeat (first | refine blk_drewN ?_ _ | refine blk_drew ?_ | refine blk_alloc ?_ _)); exact BK233.out), (by (with_reducible repeat (first | refine blk_drewN ?_ _ | refine blk_drew ?_ | refine blk_alloc ?_ _)); exact BK243.out), GW243.out, GE243.out, NB233_243.out, NB243_233.out, (by repeat (first | (with_reducible first | exact HB.out | apply below_alloc | apply pw_below_drewN | apply below_drew1 | refine below_set ?_ GE233.out | refine below_set ?_ GE243.out) | exact HB.out))⟩)
                                   rintro gb243 w42 ⟨hS_, h0_, h1_, h2_, h3_, h4_, h5_, h6_, h7_⟩
                                   have n0_ : Aside0 (Kd.R k45 45 w42 w.heap.size (fun _ => True) v238 x11_2) := ⟨h0_⟩
                                   have n1_ : Aside0 (w42.heap[gb233]? = some (.cells #[.int .i64 a0_0, .slice (some ad240) l0_1.length c0_1, .slice A0_2 l0_2.length c0_2] 24 (0, 0))) := ⟨h1_⟩
                                   have n2_ : Aside0 (w42.heap[gb243]? = some (.cells #[.string (⟨#[]⟩ : ByteArray), .bool false, .int .i64 0, .int .u64 0, .int .i64 0, .slice none 0 0, .slice none 0 0, .slice none 0 0, .int .i64 0, .int .i64 0, .int .i64 0] 32 (0, 0))) := ⟨h2_⟩
                                   have n3_ : Aside0 (w.heap.size ≤ gb243) := ⟨h3_⟩
                                   have n4_ : Aside0 (w.heap.size ≤ gb243) := ⟨h4_⟩
                                   have n5_ : Aside0 (gb233 ≠ gb243) := ⟨h5_⟩
                                   have n6_ : Aside0 (gb243 ≠ gb233) := ⟨h6_⟩
                                   have n7_ : Aside0 (Below w.heap.size w w42) := ⟨h7_⟩
                                   clear HO_11
                                   clear BK233
                                   clear HB
                                   clear h0_ h1_ h2_ h3_ h4_ h5_ h6_ h7_
                                   have HO_11 := n0_
                                   have BK233 := n1_
                                   have BK243 := n2_
                                   have GW243 := n3_
                                   have GE243 := n4_
                                   have NB233_243 := n5_
                                   have NB243_233 := n6_
                                   have HB := n7_
                                   clear n0_ n1_ n2_ n3_ n4_ n5_ n6_ n7_
                                   have hHeld : w42.cell? ⟨gb233, 0, none⟩ = some (.int .i64 a0_0) ∧ w42.cell? ⟨gb233, 1, none⟩ = some (.slice (some ad240) l0_1.length c0_1) ∧ w42.cell? ⟨gb233, 2, none⟩ = some (.slice A0_2 l0_2.length c0_2) ∧ w42.cell? (ad241.add ((a0_0).toNat * 11)) = some (.string ((rd_T32 l1 a0_0).f0)) ∧ w42.cell? ⟨(ad241.add ((a0_0).toNat * 11)).block, (ad241.add ((a0_0).toNat * 11)).off + 1, none⟩ = some (.bool ((rd_T32 l1 a0_0).f1)) ∧ w42.cell? ⟨(ad241.add ((a0_0).toNat * 11)).block, (ad241.add ((a0_0).toNat * 11)).off + 2, none⟩ = some (.int .i64 ((rd_T32 l1 a0_0).f2)) ∧ w42.cell? ⟨(ad241.add ((a0_0).toNat * 11)).block, (ad241.add ((a0_0).toNat * 11)).off + 3, none⟩ = some (.int .u64 ((rd_T32 l1 a0_0).f3)) ∧ w42.cell? ⟨(ad241.add ((a0_0).toNat * 11)).block, (ad241.add ((a0_0).toNat * 11)).off + 4, none⟩ = some (.int .i64 ((rd_T32 l1 a0_0).f4)) ∧ w42.cell? ⟨(ad241.add ((a0_0).toNat * 11)).block, (ad241.add ((a0_0).toNat * 11)).off + 5, none⟩ = some (.slice A241_5 ((rd_T32 l1 a0_0).f5).length c241_5) ∧ w42.cell? ⟨(ad241.add ((a0_0).toNat * 11)).block, (ad241.add ((a0_0).toNat * 11)).off + 6, none⟩ = some (.slice A241_6 ((rd_T32 l1 a0_0).f6).length c241_6) ∧ w42.cell? ⟨(ad241.add ((a0_0).toNat * 11)).block, (ad241.add ((a0_0).toNat * 11)).off + 7, none⟩ = some (.slice A241_7 ((rd_T32 l1 a0_0).f7).length c241_7) ∧ w42.cell? ⟨(ad241.add ((a0_0).toNat * 11)).block, (ad241.add ((a0_0).toNat * 11)).off + 8, none⟩ = some (.int .i64 ((rd_T32 l1 a0_0).f8)) ∧ w42.cell? ⟨(ad241.add ((a0_0).toNat * 11)).block, (ad241.add ((a0_0).toNat * 11)).off + 9, none⟩ = some (.int .i64 ((rd_T32 l1 a0_0).f9)) ∧ w42.cell? ⟨(ad241.add ((a0_0).toNat * 11)).block, (ad241.add ((a0_0).toNat * 11)).off + 10, none⟩ = some (.int .i64 ((rd_T32 l1 a0_0).f10)) := hS_
                                   refine norm_ (a' := ?_) ?_ ?_
                                   rotate_left
                                   · simp only [putAll, Act.put, z1, z2, z3]
                                     rfl
                                   refine one_ (i := 11) (N := none) (zb 12 1) rfl rfl (one_of HT_.out (by kernel_rfl)) (by decide) (fun K hK => ?_)
                                   have hs43 : w42.cell? ⟨gb243, 0, none⟩ = some (.string (⟨#[]⟩ : ByteArray)) := (blk_cell BK243.out 0).trans rfl
                                   have hfs43 := blk_frozen BK243.out 0
                                   have hns43_0 := NB233_243.out
                                   have hms43_0 := NB243_233.out
                                   have hs44 : w42.cell? ⟨gb243, 1, none⟩ = some (.bool false) := (blk_cell BK243.out 1).trans rfl
                                   have hfs44 := blk_frozen BK243.out 1
                                   have hns44_0 := NB233_243.out
                                   have hms44_0 := NB243_233.out
                                   have hs45 : w42.cell? ⟨gb243, 2, none⟩ = some (.int .i64 0) := (blk_cell BK243.out 2).trans rfl
                                   have hfs45 := blk_frozen BK243.out 2
                                   have hns45_0 := NB233_243.out
                                   have hms45_0 := NB243_233.out
                                   have hs46 : w42.cell? ⟨gb243, 3, none⟩ = some (.int .u64 0) := (blk_cell BK243.out 3).trans rfl
                                   have hfs46 := blk_frozen BK243.out 3
                                   have hns46_0 := NB233_243.out
                                   have hms46_0 := NB243_233.out
                                   have hs47 : w42.cell? ⟨gb243, 4, none⟩ = some (.int .i64 0) := (blk_cell BK243.out 4).trans rfl
                                   have hfs47 := blk_frozen BK243.out 4
                                   have hns47_0 := NB233_243.out
                                   have hms47_0 := NB243_233.out
                                   have hs48 : w42.cell? ⟨gb243, 5, none⟩ = some (.slice none 0 0) := (blk_cell BK243.out 5).trans rfl
                                   have hfs48 := blk_frozen BK243.out 5
                                   have hns48_0 := NB233_243.out
                                   have hms48_0 := NB243_233.out
                                   have hs49 : w42.cell? ⟨gb243, 6, none⟩ = some (.slice none 0 0) := (blk_cell BK243.out 6).trans rfl
                                   have hfs49 := blk_frozen BK243.out 6
                                   have hns49_0 := NB233_243.out
                                   have hms49_0 := NB243_233.out
                                   have hs50 : w42.cell? ⟨gb243, 7, none⟩ = some (.slice none 0 0) := (blk_cell BK243.out 7).trans rfl
                                   have hfs50 := blk_frozen BK243.out 7
                                   have hns50_0 := NB233_243.out
                                   have hms50_0 := NB243_233.out
                                   have hs51 : w42.cell? ⟨gb243, 8, none⟩ = some (.int .i64 0) := (blk_cell BK243.out 8).trans rfl
                                   have hfs51 := blk_frozen BK243.out 8
                                   have hns51_0 := NB233_243.out
                                   have hms51_0 := NB243_233.out
                                   have hs52 : w42.cell? ⟨gb243, 9, none⟩ = some (.int .i64 0) := (blk_cell BK243.out 9).trans rfl
                                   have hfs52 := blk_frozen BK243.out 9
                                   have hns52_0 := NB233_243.out
                                   have hms52_0 := NB243_233.out
                                   have hs53 : w42.cell? ⟨gb243, 10, none⟩ = some (.int .i64 0) := (blk_cell BK243.out 10).trans rfl
                                   have hfs53 := blk_frozen BK243.out 10
                                   have hns53_0 := NB233_243.out
                                   have hms53_0 := NB243_233.out
                                   refine skip_ (w1 := ?_) (by rfl) rfl ?_ ?_
                                   rotate_left; focus (go_simp; rfl)
                                   refine hK.out _ _ ⟨(by (iterate 11 (refine (cell_far (p := ⟨gb243, _, none⟩) NB233_243.out _).trans ?_)); exact hHeld.1), (by (iterate 11 (refine (cell_far (p := ⟨gb243, _, none⟩) NB233_243.out _).trans ?_)); exact hHeld.2.1), (by (iterate 11 (refine (cell_far (p := ⟨gb243, _, none⟩) NB233_243.out _).trans ?_)); exact hHeld.2.2.1), (by (iterate 11 (refine (cell_far (p := ⟨gb243, _, none⟩) (by first | exact Nat.ne_of_lt (Nat.lt_of_lt_of_le (by have := World.block_lt_of_cell? _ _ hw241_0; first | rwa [add_block] at this | exact this) GW243.out) | (rw [add_block]; exact Nat.ne_of_lt (Nat.lt_of_lt_of_le (by have := World.block_lt_of_cell? _ _ hw241_0; first | rwa [add_block] at this | exact this) GW243.out)) | (show (Addr.add _ _).block ≠ _; rw [add_block]; exact Nat.ne_of_lt (Nat.lt_of_lt_of_le (by have := World.block_lt_of_cell? _ _ hw241_0; first | rwa [add_block] at this | exact this) GW243.out)) | (dsimp only; exact Nat.ne_of_lt (Nat.lt_of_lt_of_le (by have := World.block_lt_of_cell? _ _ hw241_0; first | rwa [add_block] at this | exact this) GW243.out))) _).trans ?_)); exact hHeld.2.2.2.1), (by (iterate 11 (refine (cell_far (p := ⟨gb243, _, none⟩) (by first | exact Nat.ne_of_lt (Nat.lt_of_lt_of_le (by have := World.block_lt_of_cell? _ _ hw241_1; first | rwa [add_block] at this | exact this) GW243.out) | (rw [add_block]; exact Nat.ne_of_lt (Nat.lt_of_lt_of_le (by have := World.block_lt_of_cell? _ _ hw241_1; first | rwa [add_block] at this | exact this) GW243.out)) | (show (Addr.add _ _).block ≠ _; rw [add_block]; exact Nat.ne_of_lt (Nat.lt_of_lt_of_le (by have := World.block_lt_of_cell? _ _ hw241_1; first | rwa [add_block] at this | exact this) GW243.out)) | (dsimp only; exact Nat.ne_of_lt (Nat.lt_of_lt_of_le (by have := World.block_lt_of_cell? _ _ hw241_1; first | rwa [add_block] at this | exact this) GW243.out))) _).trans ?_)); exact hHeld.2.2.2.2.1), (by (iterate 11 (refine (cell_far (p := ⟨gb243, _, none⟩) (by first | exact Nat.ne_of_lt (Nat.lt_of_lt_of_le (by have := World.block_lt_of_cell? _ _ hw241_2; first | rwa [add_block] at this | exact this) GW243.out) | (rw [add_block]; exact Nat.ne_of_lt (Nat.lt_of_lt_of_le (by have := World.block_lt_of_cell? _ _ hw241_2; first | rwa [add_block] at this | exact this) GW243.out)) | (show (Addr.add _ _).block ≠ _; rw [add_block]; exact Nat.ne_of_lt (Nat.lt_of_lt_of_le (by have := World.block_lt_of_cell? _ _ hw241_2; first | rwa [add_block] at this | exact this) GW243.out)) | (dsimp only; exact Nat.ne_of_lt (Nat.lt_of_lt_of_le (by have := World.block_lt_of_cell? _ _ hw241_2; first | rwa [add_block] at this | exact this) GW243.out))) _).trans ?_)); exact hHeld.2.2.2.2.2.1), (by (iterate 11 (refine (cell_far (p := ⟨gb243, _, none⟩) (by first | exact Nat.ne_of_lt (Nat.lt_of_lt_of_le (by have := World.block_lt_of_cell? _ _ hw241_3; first | rwa [add_block] at this | exact this) GW243.out) | (rw [add_block]; exact Nat.ne_of_lt (Nat.lt_of_lt_of_le (by have := World.block_lt_of_cell? _ _ hw241_3; first | rwa [add_block] at this | exact this) GW243.out)) | (show (Addr.add _ _).block ≠ _; rw [add_block]; exact Nat.ne_of_lt (Nat.lt_of_lt_of_le (by have := World.block_lt_of_cell? _ _ hw241_3; first | rwa [add_block] at this | exact this) GW243.out)) | (dsimp only; exact Nat.ne_of_lt (Nat.lt_of_lt_of_le (by have := World.block_lt_of_cell? _ _ hw241_3; first | rwa [add_block] at this | exact this) GW243.out))) _).trans ?_)); exact hHeld.2.2.2.2.2.2.1), (by (iterate 11 (refine (cell_far (p := ⟨gb243, _, none⟩) (by first | exact Nat.ne_of_lt (Nat.lt_of_lt_of_le (by have := World.block_lt_of_cell? _ _ hw241_4; first | rwa [add_block] at this | exact this) GW243.out) | (rw [add_block]; exact Nat.ne_of_lt (Nat.lt_of_lt_of_le (by have := World.block_lt_of_cell? _ _ hw241_4; first | rwa [add_block] at this | exact this) GW243.out)) | (show (Addr.add _ _).block ≠ _; rw [add_block]; exact Nat.ne_of_lt (Nat.lt_of_lt_of_le (by have := World.block_lt_of_cell? _ _ hw241_4; first | rwa [add_block] at this | exact this) GW243.out)) | (dsimp only; exact Nat.ne_of_lt (Nat.lt_of_lt_of_le (by have := World.block_lt_of_cell? _ _ hw241_4; first | rwa [add_block] at this | exact this) GW243.out))) _).trans ?_)); exact hHeld.2.2.2.2.2.2.2.1), (by (iterate 11 (refine (cell_far (p := ⟨gb243, _, none⟩) (by first | exact Nat.ne_of_lt (Nat.lt_of_lt_of_le (by have := World.block_lt_of_cell? _ _ hw241_5; first | rwa [add_block] at this | exact this) GW243.out) | (rw [add_block]; exact Nat.ne_of_lt (Nat.lt_of_lt_of_le (by have := World.block_lt_of_cell? _ _ hw241_5; first | rwa [add_block] at this | exact this) GW243.out)) | (show (Addr.add _ _).block ≠ _; rw [add_block]; exact Nat.ne_of_lt (Nat.lt_of_lt_of_le (by have := World.block_lt_of_cell? _ _ hw241_5; first | rwa [add_block] at this | exact this) GW243.out)) | (dsimp only; exact Nat.ne_of_lt (Nat.lt_of_lt_of_le (by have := World.block_lt_of_cell? _ _ hw241_5; first | rwa [add_block] at this | exact this) GW243.out))) _).trans ?_)); exact hHeld.2.2.2.2.2.2.2.2.1), (by (iterate 11 (refine (cell_far (p := ⟨gb243, _, none⟩) (by first | exact Nat.ne_of_lt (Nat.lt_of_lt_of_le (by have := World.block_lt_of_cell? _ _ hw241_6; first | rwa [add_block] at this | exact this) GW243.out) | (rw [add_block]; exact Nat.ne_of_lt (Nat.lt_of_lt_of_le (by have := World.block_lt_of_cell? _ _ hw241_6; first | rwa [add_block] at this | exact this) GW243.out)) | (show (Addr.add _ _).block ≠ _; rw [add_block]; exact Nat.ne_of_lt (Nat.lt_of_lt_of_le (by have := World.block_lt_of_cell? _ _ hw241_6; first | rwa [add_block] at this | exact this) GW243.out)) | (dsimp only; exact Nat.ne_of_lt (Nat.lt_of_lt_of_le (by have := World.block_lt_of_cell? _ _ hw241_6; first | rwa [add_block] at this | exact this) GW243.out))) _).trans ?_)); exact hHeld.2.2.2.2.2.2.2.2.2.1), (by (iterate 11 (refine (cell_far (p := ⟨gb243, _, none⟩) (by first | exact Nat.ne_of_lt (Nat.lt_of_lt_of_le (by have := World.block_lt_of_cell? _ _ hw241_7; first | rwa [add_block] at this | exact this) GW243.out) | (rw [add_block]; exact Nat.ne_of_lt (Nat.lt_of_lt_of_le (by have := World.block_lt_of_cell? _ _ hw241_7; first | rwa [add_block] at this | exact this) GW243.out)) | (show (Addr.add _ _).block ≠ _; rw [add_block]; exact Nat.ne_of_lt (Nat.lt_of_lt_of_le (by have := World.block_lt_of_cell? _ _ hw241_7; first | rwa [add_block] at this | exact this) GW243.out)) | (dsimp only; exact Nat.ne_of_lt (Nat.lt_of_lt_of_le (by have := World.block_lt_of_cell? _ _ hw241_7; first | rwa [add_block] at this | exact this) GW243.out))) _).trans ?_)); exact hHeld.2.2.2.2.2.2.2.2.2.2.1), (by (iterate 11 (refine (cell_far (p := ⟨gb243, _, none⟩) (by first | exact Nat.ne_of_lt (Nat.lt_of_lt_of_le (by have := World.block_lt_of_cell? _ _ hw241_8; first | rwa [add_block] at this | exact this) GW243.out) | (rw [add_block]; exact Nat.ne_of_lt (Nat.lt_of_lt_of_le (by have := World.block_lt_of_cell? _ _ hw241_8; first | rwa [add_block] at this | exact this) GW243.out)) | (show (Addr.add _ _).block ≠ _; rw [add_block]; exact Nat.ne_of_lt (Nat.lt_of_lt_of_le (by have := World.block_lt_of_cell? _ _ hw241_8; first | rwa [add_block] at this | exact this) GW243.out)) | (dsimp only; exact Nat.ne_of_lt (Nat.lt_of_lt_of_le (by have := World.block_lt_of_cell? _ _ hw241_8; first | rwa [add_block] at this | exact this) GW243.out))) _).trans ?_)); exact hHeld.2.2.2.2.2.2.2.2.2.2.2.1), (by (iterate 11 (refine (cell_far (p := ⟨gb243, _, none⟩) (by first | exact Nat.ne_of_lt (Nat.lt_of_lt_of_le (by have := World.block_lt_of_cell? _ _ hw241_9; first | rwa [add_block] at this | exact this) GW243.out) | (rw [add_block]; exact Nat.ne_of_lt (Nat.lt_of_lt_of_le (by have := World.block_lt_of_cell? _ _ hw241_9; first | rwa [add_block] at this | exact this) GW243.out)) | (show (Addr.add _ _).block ≠ _; rw [add_block]; exact Nat.ne_of_lt (Nat.lt_of_lt_of_le (by have := World.block_lt_of_cell? _ _ hw241_9; first | rwa [add_block] at this | exact this) GW243.out)) | (dsimp only; exact Nat.ne_of_lt (Nat.lt_of_lt_of_le (by have := World.block_lt_of_cell? _ _ hw241_9; first | rwa [add_block] at this | exact this) GW243.out))) _).trans ?_)); exact hHeld.2.2.2.2.2.2.2.2.2.2.2.2.1), (by (iterate 11 (refine (cell_far (p := ⟨gb243, _, none⟩) (by first | exact Nat.ne_of_lt (Nat.lt_of_lt_of_le (by have := World.block_lt_of_cell? _ _ hw241_10; first | rwa [add_block] at this | exact this) GW243.out) | (rw [add_block]; exact Nat.ne_of_lt (Nat.lt_of_lt_of_le (by have := World.block_lt_of_cell? _ _ hw241_10; first | rwa [add_block] at this | exact this) GW243.out)) | (show (Addr.add _ _).block ≠ _; rw [add_block]; exact Nat.ne_of_lt (Nat.lt_of_lt_of_le (by have := World.block_lt_of_cell? _ _ hw241_10; first | rwa [add_block] at this | exact this) GW243.out)) | (dsimp only; exact Nat.ne_of_lt (Nat.lt_of_lt_of_le (by have := World.block_lt_of_cell? _ _ hw241_10; first | rwa [add_block] at this | exact this) GW243.out))) _).trans ?_)); exact hHeld.2.2.2.2.2.2.2.2.2.2.2.2.2)⟩ (fun hHeld => ?_)
                                   clear hK K
                                   refine pure_ (i := 12) (N := some 15) (v := ?_) (a' := ?_) (zb 13 0) rfl rfl (any_of HT_.out (by kernel_rfl)) (fun _ _ _ h => h) (Or.inl ⟨by rfl, ?_⟩) ?_ ?_
                                   rotate_left; focus (intro w'; go_simp; with_reducible rfl)
                                   rotate_left; focus (simp only [Act.put, z1, z2, z3, i64_w, i32_w]; rfl)
                                   refine done_ (done_of HT_.out (by kernel_rfl)) ?_
                                   try go_wp2
                                   have n0_ : Aside0 (Kd.R k45 45 (((((((((((w42.setCell ⟨gb243, 0, none⟩ (.string ((rd_T32 l1 a0_0).f0))).setCell ⟨gb243, 1, none⟩ (.bool ((rd_T32 l1 a0_0).f1))).setCell ⟨gb243, 2, none⟩ (.int .i64 ((rd_T32 l1 a0_0).f2))).setCell ⟨gb243, 3, none⟩ (.int .u64 ((rd_T32 l1 a0_0).f3))).setCell ⟨gb243, 4, none⟩ (.int .i64 ((rd_T32 l1 a0_0).f4))).setCell ⟨gb243, 5, none⟩ (.slice A241_5 ((rd_T32 l1 a0_0).f5).length c241_5)).setCell ⟨gb243, 6, none⟩ (.slice A241_6 ((rd_T32 l1 a0_0).f6).length c241_6)).setCell ⟨gb243, 7, none⟩ (.slice A241_7 ((rd_T32 l1 a0_0).f7).length c241_7)).setCell ⟨gb243, 8, none⟩ (.int .i64 ((rd_T32 l1 a0_0).f8))).setCell ⟨gb243, 9, none⟩ (.int .i64 ((rd_T32 l1 a0_0).f9))).setCell ⟨gb243, 10, none⟩ (.int .i64 ((rd_T32 l1 a0_0).f10))) w.heap.size (fun _ => True) v238 x11_2) := ⟨by (with_reducible repeat (first | apply Kd.R_alloc | apply Kd.R_drewN | apply Kd.R_drew)); exact Kd.R_mono (Kd.R_far (p := ⟨gb243, 10, none⟩) (Kd.R_far (p := ⟨gb243, 9, none⟩) (Kd.R_far (p := ⟨gb243, 8, none⟩) (Kd.R_far (p := ⟨gb243, 7, none⟩) (Kd.R_far (p := ⟨gb243, 6, none⟩) (Kd.R_far (p := ⟨gb243, 5, none⟩) (Kd.R_far (p := ⟨gb243, 4, none⟩) (Kd.R_far (p := ⟨gb243, 3, none⟩) (Kd.R_far (p := ⟨gb243, 2, none⟩) (Kd.R_far (p := ⟨gb243, 1, none⟩) (Kd.R_far (p := ⟨gb243, 0, none⟩) (Kd.R_types HO_11.out BK243.out (by decide)) (fun _ hk => hk.2) (.string ((rd_T32 l1 a0_0).f0))) (fun _ hk => hk.2) (.bool ((rd_T32 l1 a0_0).f1))) (fun _ hk => hk.2) (.int .i64 ((rd_T32 l1 a0_0).f2))) (fun _ hk => hk.2) (.int .u64 ((rd_T32 l1 a0_0).f3))) (fun _ hk => hk.2) (.int .i64 ((rd_T32 l1 a0_0).f4))) (fun _ hk => hk.2) (.slice A241_5 ((rd_T32 l1 a0_0).f5).length c241_5)) (fun _ hk => hk.2) (.slice A241_6 ((rd_T32 l1 a0_0).f6).length c241_6)) (fun _ hk => hk.2) (.slice A241_7 ((rd_T32 l1 a0_0).f7).length c241_7)) (fun _ hk => hk.2) (.int .i64 ((rd_T32 l1 a0_0).f8))) (fun _ hk => hk.2) (.int .i64 ((rd_T32 l1 a0_0).f9))) (fun _ hk => hk.2) (.int .i64 ((rd_T32 l1 a0_0).f10))) (fun _ hk => trivial)⟩
                                   have n1_ : Aside0 ((((((((((((w42.setCell ⟨gb243, 0, none⟩ (.string ((rd_T32 l1 a0_0).f0))).setCell ⟨gb243, 1, none⟩ (.bool ((rd_T32 l1 a0_0).f1))).setCell ⟨gb243, 2, none⟩ (.int .i64 ((rd_T32 l1 a0_0).f2))).setCell ⟨gb243, 3, none⟩ (.int .u64 ((rd_T32 l1 a0_0).f3))).setCell ⟨gb243, 4, none⟩ (.int .i64 ((rd_T32 l1 a0_0).f4))).setCell ⟨gb243, 5, none⟩ (.slice A241_5 ((rd_T32 l1 a0_0).f5).length c241_5)).setCell ⟨gb243, 6, none⟩ (.slice A241_6 ((rd_T32 l1 a0_0).f6).length c241_6)).setCell ⟨gb243, 7, none⟩ (.slice A241_7 ((rd_T32 l1 a0_0).f7).length c241_7)).setCell ⟨gb243, 8, none⟩ (.int .i64 ((rd_T32 l1 a0_0).f8))).setCell ⟨gb243, 9, none⟩ (.int .i64 ((rd_T32 l1 a0_0).f9))).setCell ⟨gb243, 10, none⟩ (.int .i64 ((rd_T32 l1 a0_0).f10))).heap[gb233]? = some (.cells #[.int .i64 a0_0, .slice (some ad240) l0_1.length c0_1, .slice A0_2 l0_2.length c0_2] 24 (0, 0))) := ⟨by (with_reducible repeat (first | refine blk_drewN ?_ _ | refine blk_drew ?_ | refine blk_alloc ?_ _)); refine blk_far ?_ NB233_243.out _; (with_reducible repeat (first | refine blk_drewN ?_ _ | refine blk_drew ?_ | refine blk_alloc ?_ _)); refine blk_far ?_ NB233_243.out _; (with_reducible repeat (first | refine blk_drewN ?_ _ | refine blk_drew ?_ | refine blk_alloc ?_ _)); refine blk_far ?_ NB233_243.out _; (with_reducible repeat (first | refine blk_drewN ?_ _ | refine blk_drew ?_ | refine blk_alloc ?_ _)); refine blk_far ?_ NB233_243.out _; (with_reducible repeat (first | refine blk_drewN ?_ _ | refine blk_drew ?_ | refine blk_alloc ?_ _)); refine blk_far ?_ NB233_243.out _; (with_reducible repeat (first | refine blk_drewN ?_ _ | refine blk_drew ?_ | refine blk_alloc ?_ _)); refine blk_far ?_ NB233_243.out _; (with_reducible repeat (first | refine blk_drewN ?_ _ | refine blk_drew ?_ | refine blk_alloc ?_ _)); refine blk_far ?_ NB233_243.out _; (with_reducible repeat (first | refine blk_drewN ?_ _ | refine blk_drew ?_ | refine blk_alloc ?_ _)); refine blk_far ?_ NB233_243.out _; (with_reducible repeat (first | refine blk_drewN ?_ _ | refine blk_drew ?_ | refine blk_alloc ?_ _)); refine blk_far ?_ NB233_243.out _; (with_reducible repeat (first | refine blk_drewN ?_ _ | refine blk_drew ?_ | refine blk_alloc ?_ _)); refine blk_far ?_ NB233_243.out _; (with_reducible repeat (first | refine blk_drewN ?_ _ | refine blk_drew ?_ | refine blk_alloc ?_ _)); refine blk_far ?_ NB233_243.out _; (with_reducible repeat (first | refine blk_drewN ?_ _ | refine blk_drew ?_ | refine blk_alloc ?_ _)); exact BK233.out⟩
                                   have n2_ : Aside0 ((((((((((((w42.setCell ⟨gb243, 0, none⟩ (.string ((rd_T32 l1 a0_0).f0))).setCell ⟨gb243, 1, none⟩ (.bool ((rd_T32 l1 a0_0).f1))).setCell ⟨gb243, 2, none⟩ (.int .i64 ((rd_T32 l1 a0_0).f2))).setCell ⟨gb243, 3, none⟩ (.int .u64 ((rd_T32 l1 a0_0).f3))).setCell ⟨gb243, 4, none⟩ (.int .i64 ((rd_T32 l1 a0_0).f4))).setCell ⟨gb243, 5, none⟩ (.slice A241_5 ((rd_T32 l1 a0_0).f5).length c241_5)).setCell ⟨gb243, 6, none⟩ (.slice A241_6 ((rd_T32 l1 a0_0).f6).length c241_6)).setCell ⟨gb243, 7, none⟩ (.slice A241_7 ((rd_T32 l1 a0_0).f7).length c241_7)).setCell ⟨gb243, 8, none⟩ (.int .i64 ((rd_T32 l1 a0_0).f8))).setCell ⟨gb243, 9, none⟩ (.int .i64 ((rd_T32 l1 a0_0).f9))).setCell ⟨gb243, 10, none⟩ (.int .i64 ((rd_T32 l1 a0_0).f10))).heap[gb243]? = some (.cells #[.string ((rd_T32 l1 a0_0).f0), .bool ((rd_T32 l1 a0_0).f1), .int .i64 ((rd_T32 l1 a0_0).f2), .int .u64 ((rd_T32 l1 a0_0).f3), .int .i64 ((rd_T32 l1 a0_0).f4), .slice A241_5 ((rd_T32 l1 a0_0).f5).length c241_5, .slice A241_6 ((rd_T32 l1 a0_0).f6).length c241_6, .slice A241_7 ((rd_T32 l1 a0_0).f7).length c241_7, .int .i64 ((rd_T32 l1 a0_0).f8), .int .i64 ((rd_T32 l1 a0_0).f9), .int .i64 ((rd_T32 l1 a0_0).f10)] 32 (0, 0))) := ⟨by (with_reducible repeat (first | refine blk_drewN ?_ _ | refine blk_drew ?_ | refine blk_alloc ?_ _)); refine blk_put (cs := #[.string ((rd_T32 l1 a0_0).f0), .bool ((rd_T32 l1 a0_0).f1), .int .i64 ((rd_T32 l1 a0_0).f2), .int .u64 ((rd_T32 l1 a0_0).f3), .int .i64 ((rd_T32 l1 a0_0).f4), .slice A241_5 ((rd_T32 l1 a0_0).f5).length c241_5, .slice A241_6 ((rd_T32 l1 a0_0).f6).length c241_6, .slice A241_7 ((rd_T32 l1 a0_0).f7).length c241_7, .int .i64 ((rd_T32 l1 a0_0).f8), .int .i64 ((rd_T32 l1 a0_0).f9), .int .i64 0]) ?_ 10 _ rfl; (with_reducible repeat (first | refine blk_drewN ?_ _ | refine blk_drew ?_ | refine blk_alloc ?_ _)); refine blk_put (cs := #[.string ((rd_T32 l1 a0_0).f0), .bool ((rd_T32 l1 a0_0).f1), .int .i64 ((rd_T32 l1 a0_0).f2), .int .u64 ((rd_T32 l1 a0_0).f3), .int .i64 ((rd_T32 l1 a0_0).f4), .slice A241_5 ((rd_T32 l1 a0_0).f5).length c241_5, .slice A241_6 ((rd_T32 l1 a0_0).f6).length c241_6, .slice A241_7 ((rd_T32 l1 a0_0).f7).length c241_7, .int .i64 ((rd_T32 l1 a0_0).f8), .int .i64 0, .int .i64 0]) ?_ 9 _ rfl; (with_reducible repeat (first | refine blk_drewN ?_ _ | refine blk_drew ?_ | refine blk_alloc ?_ _)); refine blk_put (cs := #[.string ((rd_T32 l1 a0_0).f0), .bool ((rd_T32 l1 a0_0).f1), .int .i64 ((rd_T32 l1 a0_0).f2), .int .u64 ((rd_T32 l1 a0_0).f3), .int .i64 ((rd_T32 l1 a0_0).f4), .slice A241_5 ((rd_T32 l1 a0_0).f5).length c241_5, .slice A241_6 ((rd_T32 l1 a0_0).f6).length c241_6, .slice A241_7 ((rd_T32 l1 a0_0).f7).length c241_7, .int .i64 0, .int .i64 0, .int .i64 0]) ?_ 8 _ rfl; (with_reducible repeat (first | refine blk_drewN ?_ _ | refine blk_drew ?_ | refine blk_alloc ?_ _)); refine blk_put (cs := #[.string ((rd_T32 l1 a0_0).f0), .bool ((rd_T32 l1 a0_0).f1), .int .i64 ((rd_T32 l1 a0_0).f2), .int .u64 ((rd_T32 l1 a0_0).f3), .int .i64 ((rd_T32 l1 a0_0).f4), .slice A241_5 ((rd_T32 l1 a0_0).f5).length c241_5, .slice A241_6 ((rd_T32 l1 a0_0).f6).length c241_6, .slice none 0 0, .int .i64 0, .int .i64 0, .int .i64 0]) ?_ 7 _ rfl; (with_reducible repeat (first | refine blk_drewN ?_ _ | refine blk_drew ?_ | refine blk_alloc ?_ _)); refine blk_put (cs := #[.string ((rd_T32 l1 a0_0).f0), .bool ((rd_T32 l1 a0_0).f1), .int .i64 ((rd_T32 l1 a0_0).f2), .int .u64 ((rd_T32 l1 a0_0).f3), .int .i64 ((rd_T32 l1 a0_0).f4), .slice A241_5 ((rd_T32 l1 a0_0).f5).length c241_5, .slice none 0 0, .slice none 0 0, .int .i64 0, .int .i64 0, .int .i64 0]) ?_ 6 _ rfl; (with_reducible repeat (first | refine blk_drewN ?_ _ | refine blk_drew ?_ | refine blk_alloc ?_ _)); refine blk_put (cs := #[.string ((rd_T32 l1 a0_0).f0), .bool ((rd_T32 l1 a0_0).f1), .int .i64 ((rd_T32 l1 a0_0).f2), .int .u64 ((rd_T32 l1 a0_0).f3), .int .i64 ((rd_T32 l1 a0_0).f4), .slice none 0 0, .slice none 0 0, .slice none 0 0, .int .i64 0, .int .i64 0, .int .i64 0]) ?_ 5 _ rfl; (with_reducible repeat (first | refine blk_drewN ?_ _ | refine blk_drew ?_ | refine blk_alloc ?_ _)); refine blk_put (cs := #[.string ((rd_T32 l1 a0_0).f0), .bool ((rd_T32 l1 a0_0).f1), .int .i64 ((rd_T32 l1 a0_0).f2), .int .u64 ((rd_T32 l1 a0_0).f3), .int .i64 0, .slice none 0 0, .slice none 0 0, .slice none 0 0, .int .i64 0, .int .i64 0, .int .i64 0]) ?_ 4 _ rfl; (with_reducible repeat (first | refine blk_drewN ?_ _ | refine blk_drew ?_ | refine blk_alloc ?_ _)); refine blk_put (cs := #[.string ((rd_T32 l1 a0_0).f0), .bool ((rd_T32 l1 a0_0).f1), .int .i64 ((rd_T32 l1 a0_0).f2), .int .u64 0, .int .i64 0, .slice none 0 0, .slice none 0 0, .slice none 0 0, .int .i64 0, .int .i64 0, .int .i64 0]) ?_ 3 _ rfl; (with_reducible repeat (first | refine blk_drewN ?_ _ | refine blk_drew ?_ | refine blk_alloc ?_ _)); refine blk_put (cs := #[.string ((rd_T32 l1 a0_0).f0), .bool ((rd_T32 l1 a0_0).f1), .int .i64 0, .int .u64 0, .int .i64 0, .slice none 0 0, .slice none 0 0, .slice none 0 0, .int .i64 0, .int .i64 0, .int .i64 0]) ?_ 2 _ rfl; (with_reducible repeat (first | refine blk_drewN ?_ _ | refine blk_drew ?_ | refine blk_alloc ?_ _)); refine blk_put (cs := #[.string ((rd_T32 l1 a0_0).f0), .bool false, .int .i64 0, .int .u64 0, .int .i64 0, .slice none 0 0, .slice none 0 0, .slice none 0 0, .int .i64 0, .int .i64 0, .int .i64 0]) ?_ 1 _ rfl; (with_reducible repeat (first | refine blk_drewN ?_ _ | refine blk_drew ?_ | refine blk_alloc ?_ _)); refine blk_put (cs := #[.string (⟨#[]⟩ : ByteArray), .bool false, .int .i64 0, .int .u64 0, .int .i64 0, .slice none 0 0, .slice none 0 0, .slice none 0 0, .int .i64 0, .int .i64 0, .int .i64 0]) ?_ 0 _ rfl; (with_reducible repeat (first | refine blk_drewN ?_ _ | refine blk_drew ?_ | refine blk_alloc ?_ _)); exact BK243.out⟩
                                   have n3_ : Aside0 (Below w.heap.size w (((((((((((w42.setCell ⟨gb243, 0, none⟩ (.string ((rd_T32 l1 a0_0).f0))).setCell ⟨gb243, 1, none⟩ (.bool ((rd_T32 l1 a0_0).f1))).setCell ⟨gb243, 2, none⟩ (.int .i64 ((rd_T32 l1 a0_0).f2))).setCell ⟨gb243, 3, none⟩ (.int .u64 ((rd_T32 l1 a0_0).f3))).setCell ⟨gb243, 4, none⟩ (.int .i64 ((rd_T32 l1 a0_0).f4))).setCell ⟨gb243, 5, none⟩ (.slice A241_5 ((rd_T32 l1 a0_0).f5).length c241_5)).setCell ⟨gb243, 6, none⟩ (.slice A241_6 ((rd_T32 l1 a0_0).f6).length c241_6)).setCell ⟨gb243, 7, none⟩ (.slice A241_7 ((rd_T32 l1 a0_0).f7).length c241_7)).setCell ⟨gb243, 8, none⟩ (.int .i64 ((rd_T32 l1 a0_0).f8))).setCell ⟨gb243, 9, none⟩ (.int .i64 ((rd_T32 l1 a0_0).f9))).setCell ⟨gb243, 10, none⟩ (.int .i64 ((rd_T32 l1 a0_0).f10)))) := ⟨by repeat (first | (with_reducible first | exact HB.out | apply below_alloc | apply pw_below_drewN | apply below_drew1 | refine below_set ?_ GE233.out | refine below_set ?_ GE243.out) | exact HB.out)⟩
                                   (try clear HO_11)
                                   (try clear BK233)
                                   (try clear BK243)
                                   (try clear HB)
                                   generalize (((((((((((w42.setCell ⟨gb243, 0, none⟩ (.string ((rd_T32 l1 a0_0).f0))).setCell ⟨gb243, 1, none⟩ (.bool ((rd_T32 l1 a0_0).f1))).setCell ⟨gb243, 2, none⟩ (.int .i64 ((rd_T32 l1 a0_0).f2))).setCell ⟨gb243, 3, none⟩ (.int .u64 ((rd_T32 l1 a0_0).f3))).setCell ⟨gb243, 4, none⟩ (.int .i64 ((rd_T32 l1 a0_0).f4))).setCell ⟨gb243, 5, none⟩ (.slice A241_5 ((rd_T32 l1 a0_0).f5).length c241_5)).setCell ⟨gb243, 6, none⟩ (.slice A241_6 ((rd_T32 l1 a0_0).f6).length c241_6)).setCell ⟨gb243, 7, none⟩ (.slice A241_7 ((rd_T32 l1 a0_0).f7).length c241_7)).setCell ⟨gb243, 8, none⟩ (.int .i64 ((rd_T32 l1 a0_0).f8))).setCell ⟨gb243, 9, none⟩ (.int .i64 ((rd_T32 l1 a0_0).f9))).setCell ⟨gb243, 10, none⟩ (.int .i64 ((rd_T32 l1 a0_0).f10))) = w54 at n0_ n1_ n2_ n3_ ⊢
                                   have HO_11 := n0_
                                   have BK233 := n1_
                                   have BK243 := n2_
                                   have HB := n3_
                                   clear n0_ n1_ n2_ n3_
                                   have n0_ := Aside0.mk (Kd.R_drew HO_11.out)
                                   have n1_ := Aside0.mk (blk_drew BK233.out)
                                   have n2_ := Aside0.mk (blk_drew BK243.out)
                                   have n3_ := Aside0.mk (below_drew1 HB.out)
                                   clear HO_11
                                   clear BK233
                                   clear BK243
                                   clear HB
                                   have HO_11 := n0_
                                   have BK233 := n1_
                                   have BK243 := n2_
                                   have HB := n3_
                                   clear n0_ n1_ n2_ n3_
                                   have p244 : 0 ≤ (0 : Int) := (by omega)
                                   have q244 : 0 < (((rd_T32 l1 a0_0).f6).length : Int) := of_decide_eq_true (by first | (with_reducible assumption) | assumption)
                                   obtain ⟨ad244, e244, hx244_0⟩ := Kd.at_int HR241_6.out 0 p244 q244
                                   have hw244_0 := hx244_0
                                   (try rw [show ((0 : Int)).toNat = 0 from rfl] at hw244_0)
                                   (try rw [show 0 * 1 = 0 from rfl] at hw244_0)
                                   (try rw [Addr.add_zero'] at hw244_0)
                                   cases e244
                                   have qi244 : (0 < ((rd_T32 l1 a0_0).f6).length) = True := eq_true (by omega)
                                   (try rw [show ((0 : Int)).toNat = 0 from rfl] at hx244_0)
                                   (try rw [Addr.add_zero'] at hx244_0)
                                   replace hx244_0 := (HB.out.cell (World.block_lt_of_cell? w _ hx244_0)).trans hx244_0
                                   replace p244 := eq_true p244
                                   replace q244 := eq_true q244
                                   have p245 : 0 ≤ (0 : Int) := (by omega)
                                   have q245 : 0 < (((rd_T32 l1 a0_0).f7).length : Int) := of_decide_eq_true (by first | (with_reducible assumption) | assumption)
                                   obtain ⟨ad245, e245, hx245_0⟩ := Kd.at_int HR241_7.out 0 p245 q245
                                   have hw245_0 := hx245_0
                                   (try rw [show ((0 : Int)).toNat = 0 from rfl] at hw245_0)
                                   (try rw [show 0 * 1 = 0 from rfl] at hw245_0)
                                   (try rw [Addr.add_zero'] at hw245_0)
                                   cases e245
                                   have qi245 : (0 < ((rd_T32 l1 a0_0).f7).length) = True := eq_true (by omega)
                                   (try rw [show ((0 : Int)).toNat = 0 from rfl] at hx245_0)
                                   (try rw [Addr.add_zero'] at hx245_0)
                                   replace hx245_0 := (HB.out.cell (World.block_lt_of_cell? w _ hx245_0)).trans hx245_0
                                   replace p245 := eq_true p245
                                   replace q245 := eq_true q245
                                   have p33 : 0 ≤ (x57_2 : Int) := of_decide_eq_true (by first | (with_reducible assumption) | assumption)
                                   have q33 : (x57_2 : Int) < ((x11_2.length : Int) : Int) := of_decide_eq_true (by first | (with_reducible assumption) | assumption)
                                   obtain ⟨go33, co33, eo33, gb33, gl33, cl33, HG33⟩ := Kd.R_form HO_11.out (by omega)
                                   (first | cases eo33 | (injection eo33 with ea_ en_ ec_; (first | subst ea_ | (injection ea_ with ea_; subst ea_)); subst ec_; clear en_))
                                   have GB33 := Aside0.mk gb33
                                   have GG33 := Aside0.mk HG33
                                   clear gb33 gl33 HG33
                                   obtain ⟨ce33, hcl33, hM33, hcc33, hfr33⟩ := Kd.R_elem HO_11.out z45 (x57_2 : Int) p33 q33
                                   obtain rfl := k45_openM hM33
                                   have hx33_0 : World.cell? _ ⟨go33, (x57_2 : Int).toNat * 2, none⟩ = some (.int .i64 ((rd_T45 x11_2 x57_2).f0)) := hcc33 0 _ rfl
                                   have hx33_1 : World.cell? _ ⟨go33, (x57_2 : Int).toNat * 2 + 1, none⟩ = some (.int .i64 ((rd_T45 x11_2 x57_2).f1)) := hcc33 1 _ rfl
                                   have hf33_0 : World.frozen? _ ⟨go33, (x57_2 : Int).toNat * 2, none⟩ = false := hfr33 0
                                   have hf33_1 : World.frozen? _ ⟨go33, (x57_2 : Int).toNat * 2 + 1, none⟩ = false := hfr33 1
                                   clear hcl33 hcc33 hfr33 hM33
                                   replace p33 := eq_true p33
                                   replace q33 := eq_true q33
                                   obtain ⟨ce56, hcl56, hM56, hcc56, hfr56⟩ := Kd.R_elem HO_11.out z45 (x57_2 : Int) (of_decide_eq_true (by first | (with_reducible assumption) | assumption)) (by have h_ : (x57_2 : Int) < ((x11_2.length : Int) : Int) := of_decide_eq_true (by first | (with_reducible assumption) | assumption); first | exact h_ | (have e_ := (Kd.R_reads' HO_11.out).1; omega) | simpa using h_)
                                   obtain rfl := k45_openM hM56
                                   have HP56 := (Kd.R_seg HO_11.out (x57_2 : Int) (of_decide_eq_true (by first | (with_reducible assumption) | assumption)) (by have h_ : (x57_2 : Int) < ((x11_2.length : Int) : Int) := of_decide_eq_true (by first | (with_reducible assumption) | assumption); first | exact h_ | (have e_ := (Kd.R_reads' HO_11.out).1; omega) | simpa using h_) (seg := [.int .i64 (wrap64 ((rd ((rd_T32 l1 a0_0).f6) 0) + (wrap64 (((rd_T32 l1 a0_0).f8) * t242)))), .int .i64 (wrap64 ((rd ((rd_T32 l1 a0_0).f7) 0) + (wrap64 (((rd_T32 l1 a0_0).f8) * t242))))]) (j := 0) hcl56 hcc56 (show 2 ≤ 2 from by decide) (x' := (⟨wrap64 ((rd ((rd_T32 l1 a0_0).f6) 0) + (wrap64 (((rd_T32 l1 a0_0).f8) * t242))), wrap64 ((rd ((rd_T32 l1 a0_0).f7) 0) + (wrap64 (((rd_T32 l1 a0_0).f8) * t242)))⟩ : S45)) (k45_mkM _ _ _ (⟨wrap64 ((rd ((rd_T32 l1 a0_0).f6) 0) + (wrap64 (((rd_T32 l1 a0_0).f8) * t242))), wrap64 ((rd ((rd_T32 l1 a0_0).f7) 0) + (wrap64 (((rd_T32 l1 a0_0).f8) * t242)))⟩ : S45) ) (fun _ hk => hk)).1
                                   rw [← Ny246.out] at HP56
                                   have HQ56 := Aside0.mk HP56
                                   clear hcl56 hcc56 hfr56 hM56 HP56
                                   refine start_ (n := 23) (S := fun w' => w'.cell? ⟨gb243, 0, none⟩ = some (.string ((rd_T32 l1 a0_0).f0)) ∧ w'.cell? ⟨gb243, 1, none⟩ = some (.bool ((rd_T32 l1 a0_0).f1)) ∧ w'.cell? ⟨gb243, 2, none⟩ = some (.int .i64 ((rd_T32 l1 a0_0).f2)) ∧ w'.cell? ⟨gb243, 3, none⟩ = some (.int .u64 ((rd_T32 l1 a0_0).f3)) ∧ w'.cell? ⟨gb243, 4, none⟩ = some (.int .i64 ((rd_T32 l1 a0_0).f4)) ∧ w'.cell? ⟨gb243, 5, none⟩ = some (.slice A241_5 ((rd_T32 l1 a0_0).f5).length c241_5) ∧ w'.cell? ⟨gb243, 6, none⟩ = some (.slice (some ad244) ((rd_T32 l1 a0_0).f6).length c241_6) ∧ w'.cell? ⟨gb243, 7, none⟩ = some (.slice (some ad245) ((rd_T32 l1 a0_0).f7).length c241_7) ∧ w'.cell? ⟨gb243, 8, none⟩ = some (.int .i64 ((rd_T32 l1 a0_0).f8)) ∧ w'.cell? ⟨gb243, 9, none⟩ = some (.int .i64 ((rd_T32 l1 a0_0).f9)) ∧ w'.cell? ⟨gb243, 10, none⟩ = some (.int .i64 ((rd_T32 l1 a0_0).f10)) ∧ w'.cell? ad244 = some (.int .i64 (rd ((rd_T32 l1 a0_0).f6) 0)) ∧ w'.cell? ad245 = some (.int .i64 (rd ((rd_T32 l1 a0_0).f7) 0))) (ds := [22]) (zb 0 23) (by kernel_rfl) rfl rfl ⟨(blk_cell BK243.out 0).trans rfl, (blk_cell BK243.out 1).trans rfl, (blk_cell BK243.out 2).trans rfl, (blk_cell BK243.out 3).trans rfl, (blk_cell BK243.out 4).trans rfl, (blk_cell BK243.out 5).trans rfl, (blk_cell BK243.out 6).trans rfl, (blk_cell BK243.out 7).trans rfl, (blk_cell BK243.out 8).trans rfl, (blk_cell BK243.out 9).trans rfl, (blk_cell BK243.out 10).trans rfl, ((HB.out.cell (World.block_lt_of_cell? w _ hw244_0)).trans hw244_0), ((HB.out.cell (World.block_lt_of_cell? w _ hw245_0)).trans hw245_0)⟩ (fun hHeld => ?_); refine with_tabW tree_Arrivals.tab15 tree_Arrivals.bits15 (fun HT_ HW_ => ?_)
                                   generalize w54.drew = w55 at HO_11 BK233 BK243 HB GG33 HQ56 hf33_0 hf33_1 hx244_0 hx245_0 hx33_0 hx33_1 hHeld ⊢
                                   refine pure_ (i := 0) (N := some 72) (v := ?_) (a' := ?_) (zb 1 22) rfl rfl (any_of HT_.out (by kernel_rfl)) (fun _ _ _ h => h) (Or.inl ⟨by rfl, ?_⟩) ?_ ?_
                                   rotate_left; focus (intro w'; go_simp; with_reducible rfl)
                                   rotate_left; focus (simp only [Act.put, z1, z2, z3, i64_w, i32_w]; rfl)
                                   refine pure_ (i := 1) (N := some 73) (v := ?_) (a' := ?_) (zb 2 21) rfl rfl (any_of HT_.out (by kernel_rfl)) (fun _ _ _ h => h) (Or.inl ⟨by rfl, ?_⟩) ?_ ?_
                                   rotate_left; focus (intro w'; go_simp; with_reducible rfl)
                                   rotate_left; focus (simp only [Act.put, z1, z2, z3, i64_w, i32_w]; rfl)
                                   refine pure_ (i := 2) (N := some 74) (v := ?_) (a' := ?_) (zb 3 20) rfl rfl (any_of HT_.out (by kernel_rfl)) (fun _ _ _ h => h) (Or.inl ⟨by rfl, ?_⟩) ?_ ?_
                                   rotate_left; focus (intro w'; go_simp; with_reducible rfl)
                                   rotate_left; focus (simp only [Act.put, z1, z2, z3, i64_w, i32_w]; rfl)
                                   refine pure_ (i := 6) (N := some 78) (v := ?_) (a' := ?_) #[true,true,true,false,false,false,true,false,false,false,false,false,false,false,false,false,false,false,false,false,false,false,false] rfl rfl (any_of HT_.out (by kernel_rfl)) (fun _ _ _ h => h) (Or.inl ⟨by rfl, ?_⟩) ?_ ?_
                                   rotate_left; focus (intro w'; go_simp; with_reducible rfl)
                                   rotate_left; focus (simp only [Act.put, z1, z2, z3, i64_w, i32_w]; rfl)
                                   refine pure_ (i := 8) (N := some 80) (v := ?_) (a' := ?_) #[true,true,true,false,false,false,true,false,true,false,false,false,false,false,false,false,false,false,false,false,false,false,false] rfl rfl (any_of HT_.out (by kernel_rfl)) (fun _ _ _ h => h) (Or.inl ⟨by rfl, ?_⟩) ?_ ?_
                                   rotate_left; focus (intro w'; go_simp; with_reducible rfl)
                                   rotate_left; focus (simp only [Act.put, z1, z2, z3, i64_w, i32_w]; rfl)
                                   refine pure_ (i := 11) (N := some 83) (v := ?_) (a' := ?_) #[true,true,true,false,false,false,true,false,true,false,false,true,false,false,false,false,false,false,false,false,false,false,false] rfl rfl (any_of HT_.out (by kernel_rfl)) (fun _ _ _ h => h) (Or.inl ⟨by rfl, ?_⟩) ?_ ?_
                                   rotate_left; focus (intro w'; go_simp; with_reducible rfl)
                                   rotate_left; focus (simp only [Act.put, z1, z2, z3, i64_w, i32_w]; rfl)
                                   refine pure_ (i := 15) (N := some 87) (v := ?_) (a' := ?_) #[true,true,true,false,false,false,true,false,true,false,false,true,false,false,false,true,false,false,false,false,false,false,false] rfl rfl (any_of HT_.out (by kernel_rfl)) (fun _ _ _ h => h) (Or.inl ⟨by rfl, ?_⟩) ?_ ?_
                                   rotate_left; focus (intro w'; go_simp; with_reducible rfl)
                                   rotate_left; focus (simp only [Act.put, z1, z2, z3, i64_w, i32_w]; rfl)
                                   refine pure_ (i := 17) (N := some 89) (v := ?_) (a' := ?_) #[true,true,true,false,false,false,true,false,true,false,false,true,false,false,false,true,false,true,false,false,false,false,false] rfl rfl (any_of HT_.out (by kernel_rfl)) (fun _ _ _ h => h) (Or.inl ⟨by rfl, ?_⟩) ?_ ?_
                                   rotate_left; focus (intro w'; go_simp; with_reducible rfl)
                                   rotate_left; focus (simp only [Act.put, z1, z2, z3, i64_w, i32_w]; rfl)
                                   refine take_ (i := 3) (N := some 75) (v := ?_) (a' := ?_) #[true,true,true,true,false,false,true,false,true,false,false,true,false,false,false,true,false,true,false,false,false,false,false] rfl rfl (take_ofW HT_.out HW_.out (by kernel_rfl)) (fun _ _ _ h => h) (Or.inl ⟨by rfl, ?_⟩) hHeld ?_ ?_
                                   rotate_left
                                   · rintro w' ⟨s0, s1, s2, s3, s4, s5, s6, s7, s8, s9, s10, s11, s12⟩
                                     go_simp
                                     with_reducible rfl
                                   rotate_left; focus (simp only [Act.put, z1, z2, z3, i64_w, i32_w]; rfl)
                                   refine pure_ (i := 4) (N := some 76) (v := ?_) (a' := ?_) #[true,true,true,true,true,false,true,false,true,false,false,true,false,false,false,true,false,true,false,false,false,false,false] rfl rfl (any_of HT_.out (by kernel_rfl)) (fun _ _ _ h => h) (Or.inl ⟨by rfl, ?_⟩) ?_ ?_
                                   rotate_left; focus (intro w'; go_simp; with_reducible rfl)
                                   rotate_left; focus (simp only [Act.put, z1, z2, z3, i64_w, i32_w]; rfl)
                                   refine take_ (i := 5) (N := some 77) (v := ?_) (a' := ?_) #[true,true,true,true,true,true,true,false,true,false,false,true,false,false,false,true,false,true,false,false,false,false,false] rfl rfl (take_ofW HT_.out HW_.out (by kernel_rfl)) (fun _ _ _ h => h) (Or.inl ⟨by rfl, ?_⟩) hHeld ?_ ?_
                                   rotate_left
                                   · rintro w' ⟨s0, s1, s2, s3, s4, s5, s6, s7, s8, s9, s10, s11, s12⟩
                                     go_simp
                                     with_reducible rfl
                                   rotate_left; focus (simp only [Act.put, z1, z2, z3, i64_w, i32_w]; rfl)
                                   refine take_ (i := 7) (N := some 79) (v := ?_) (a' := ?_) #[true,true,true,true,true,true,true,true,true,false,false,true,false,false,false,true,false,true,false,false,false,false,false] rfl rfl (take_ofW HT_.out HW_.out (by kernel_rfl)) (fun _ _ _ h => h) (Or.inl ⟨by rfl, ?_⟩) hHeld ?_ ?_
                                   rotate_left
                                   · rintro w' ⟨s0, s1, s2, s3, s4, s5, s6, s7, s8, s9, s10, s11, s12⟩
                                     go_simp
                                     with_reducible rfl
                                   rotate_left; focus (simp only [Act.put, z1, z2, z3, i64_w, i32_w]; rfl)
                                   refine pure_ (i := 9) (N := some 81) (v := ?_) (a' := ?_) #[true,true,true,true,true,true,true,true,true,true,false,true,false,false,false,true,false,true,false,false,false,false,false] rfl rfl (any_of HT_.out (by kernel_rfl)) (fun _ _ _ h => h) (Or.inl ⟨by rfl, ?_⟩) ?_ ?_
                                   rotate_left; focus (intro w'; go_simp; with_reducible rfl)
                                   rotate_left; focus (simp only [Act.put, z1, z2, z3, i64_w, i32_w]; rfl)
                                   refine pure_ (i := 10) (N := some 82) (v := ?_) (a' := ?_) #[true,true,true,true,true,true,true,true,true,true,true,true,false,false,false,true,false,true,false,false,false,false,false] rfl rfl (any_of HT_.out (by kernel_rfl)) (fun _ _ _ h => h) (Or.inl ⟨by rfl, ?_⟩) ?_ ?_
                                   rotate_left; focus (intro w'; go_simp; with_reducible rfl)
                                   rotate_left; focus (simp only [Act.put, z1, z2, z3, i64_w, i32_w]; rfl)
                                   refine take_ (i := 12) (N := some 84) (v := ?_) (a' := ?_) #[true,true,true,true,true,true,true,true,true,true,true,true,true,false,false,true,false,true,false,false,false,false,false] rfl rfl (take_ofW HT_.out HW_.out (by kernel_rfl)) (fun _ _ _ h => h) (Or.inl ⟨by rfl, ?_⟩) hHeld ?_ ?_
                                   rotate_left
                                   · rintro w' ⟨s0, s1, s2, s3, s4, s5, s6, s7, s8, s9, s10, s11, s12⟩
                                     go_simp
                                     with_reducible rfl
                                   rotate_left; focus (simp only [Act.put, z1, z2, z3, i64_w, i32_w]; rfl)
                                   refine pure_ (i := 13) (N := some 85) (v := ?_) (a' := ?_) #[true,true,true,true,true,true,true,true,true,true,true,true,true,true,false,true,false,true,false,false,false,false,false] rfl rfl (any_of HT_.out (by kernel_rfl)) (fun _ _ _ h => h) (Or.inl ⟨by rfl, ?_⟩) ?_ ?_
                                   rotate_left; focus (intro w'; go_simp; with_reducible rfl)
                                   rotate_left; focus (simp only [Act.put, z1, z2, z3, i64_w, i32_w]; rfl)
                                   refine take_ (i := 14) (N := some 86) (v := ?_) (a' := ?_) #[true,true,true,true,true,true,true,true,true,true,true,true,true,true,true,true,false,true,false,false,false,false,false] rfl rfl (take_ofW HT_.out HW_.out (by kernel_rfl)) (fun _ _ _ h => h) (Or.inl ⟨by rfl, ?_⟩) hHeld ?_ ?_
                                   rotate_left
                                   · rintro w' ⟨s0, s1, s2, s3, s4, s5, s6, s7, s8, s9, s10, s11, s12⟩
                                     go_simp
                                     with_reducible rfl
                                   rotate_left; focus (simp only [Act.put, z1, z2, z3, i64_w, i32_w]; rfl)
                                   refine take_ (i := 16) (N := some 88) (v := ?_) (a' := ?_) (zb 18 5) rfl rfl (take_ofW HT_.out HW_.out (by kernel_rfl)) (fun _ _ _ h => h) (Or.inl ⟨by rfl, ?_⟩) hHeld ?_ ?_
                                   rotate_left
                                   · rintro w' ⟨s0, s1, s2, s3, s4, s5, s6, s7, s8, s9, s10, s11, s12⟩
                                     go_simp
                                     with_reducible rfl
                                   rotate_left; focus (simp only [Act.put, z1, z2, z3, i64_w, i32_w]; rfl)
                                   refine pure_ (i := 18) (N := some 90) (v := ?_) (a' := ?_) (zb 19 4) rfl rfl (any_of HT_.out (by kernel_rfl)) (fun _ _ _ h => h) (Or.inl ⟨by rfl, ?_⟩) ?_ ?_
                                   rotate_left; focus (intro w'; go_simp; with_reducible rfl)
                                   rotate_left; focus (simp only [Act.put, z1, z2, z3, i64_w, i32_w]; rfl)
                                   refine pure_ (i := 19) (N := some 91) (v := ?_) (a' := ?_) (zb 20 3) rfl rfl (any_of HT_.out (by kernel_rfl)) (fun _ _ _ h => h) (Or.inl ⟨by rfl, ?_⟩) ?_ ?_
                                   rotate_left; focus (intro w'; go_simp; with_reducible rfl)
                                   rotate_left; focus (simp only [Act.put, z1, z2, z3, i64_w, i32_w]; rfl)
                                   refine pure_ (i := 20) (N := some 92) (v := ?_) (a' := ?_) (zb 21 2) rfl rfl (any_of HT_.out (by kernel_rfl)) (fun _ _ _ h => h) (Or.inl ⟨by rfl, ?_⟩) ?_ ?_
                                   rotate_left; focus (intro w'; go_simp; with_reducible rfl)
                                   rotate_left; focus (simp only [Act.put, z1, z2, z3, i64_w, i32_w]; rfl)
                                   refine pure_ (i := 21) (N := some 93) (v := ?_) (a' := ?_) (zb 22 1) rfl rfl (any_of HT_.out (by kernel_rfl)) (fun _ _ _ h => h) (Or.inl ⟨by rfl, ?_⟩) ?_ ?_
                                   rotate_left; focus (intro w'; go_simp; with_reducible rfl)
                                   rotate_left; focus (simp only [Act.put, z1, z2, z3, i64_w, i32_w]; rfl)
                                   refine last_ (i := 22) (N := none) (zb 23 0) rfl rfl (one_of HT_.out (by kernel_rfl)) (by decide) (fun K hK => ?_)
                                   refine skip_ (w1 := ?_) (by rfl) rfl ?_ ?_
                                   rotate_left; focus (go_simp; rfl)
                                   refine hK.out _ _ ?_
                                   clear hK K
                                   refine done_ (done_of HT_.out (by kernel_rfl)) ?_
                                   try go_wp2
                                   have n0_ : Aside0 (Kd.R k45 45 ((w55.setCell ⟨go33, (x57_2 : Int).toNat * 2, none⟩ (.int .i64 (wrap64 ((rd ((rd_T32 l1 a0_0).f6) 0) + (wrap64 (((rd_T32 l1 a0_0).f8) * t242)))))).setCell ⟨go33, (x57_2 : Int).toNat * 2 + 1, none⟩ (.int .i64 (wrap64 ((rd ((rd_T32 l1 a0_0).f7) 0) + (wrap64 (((rd_T32 l1 a0_0).f8) * t242)))))) w.heap.size (fun _ => True) (.slice (some ⟨go33, 0, none⟩) x11_2.length co33) y246) := ⟨by (with_reducible repeat (first | apply Kd.R_alloc | apply Kd.R_drewN | apply Kd.R_drew)); exact HQ56.out⟩
                                   have n1_ : Aside0 (((w55.setCell ⟨go33, (x57_2 : Int).toNat * 2, none⟩ (.int .i64 (wrap64 ((rd ((rd_T32 l1 a0_0).f6) 0) + (wrap64 (((rd_T32 l1 a0_0).f8) * t242)))))).setCell ⟨go33, (x57_2 : Int).toNat * 2 + 1, none⟩ (.int .i64 (wrap64 ((rd ((rd_T32 l1 a0_0).f7) 0) + (wrap64 (((rd_T32 l1 a0_0).f8) * t242)))))).heap[gb233]? = some (.cells #[.int .i64 a0_0, .slice (some ad240) l0_1.length c0_1, .slice A0_2 l0_2.length c0_2] 24 (0, 0))) := ⟨by (with_reducible repeat (first | refine blk_drewN ?_ _ | refine blk_drew ?_ | refine blk_alloc ?_ _)); refine blk_far ?_ (by have h_ := Kd.R_ne HO_11.out BK233.out (by decide); intro e_; exact h_ (by rw [e_]; rfl)) _; (with_reducible repeat (first | refine blk_drewN ?_ _ | refine blk_drew ?_ | refine blk_alloc ?_ _)); refine blk_far ?_ (by have h_ := Kd.R_ne HO_11.out BK233.out (by decide); intro e_; exact h_ (by rw [e_]; rfl)) _; (with_reducible repeat (first | refine blk_drewN ?_ _ | refine blk_drew ?_ | refine blk_alloc ?_ _)); exact BK233.out⟩
                                   have n2_ : Aside0 (((w55.setCell ⟨go33, (x57_2 : Int).toNat * 2, none⟩ (.int .i64 (wrap64 ((rd ((rd_T32 l1 a0_0).f6) 0) + (wrap64 (((rd_T32 l1 a0_0).f8) * t242)))))).setCell ⟨go33, (x57_2 : Int).toNat * 2 + 1, none⟩ (.int .i64 (wrap64 ((rd ((rd_T32 l1 a0_0).f7) 0) + (wrap64 (((rd_T32 l1 a0_0).f8) * t242)))))).heap[gb243]? = some (.cells #[.string ((rd_T32 l1 a0_0).f0), .bool ((rd_T32 l1 a0_0).f1), .int .i64 ((rd_T32 l1 a0_0).f2), .int .u64 ((rd_T32 l1 a0_0).f3), .int .i64 ((rd_T32 l1 a0_0).f4), .slice A241_5 ((rd_T32 l1 a0_0).f5).length c241_5, .slice (some ad244) ((rd_T32 l1 a0_0).f6).length c241_6, .slice (some ad245) ((rd_T32 l1 a0_0).f7).length c241_7, .int .i64 ((rd_T32 l1 a0_0).f8), .int .i64 ((rd_T32 l1 a0_0).f9), .int .i64 ((rd_T32 l1 a0_0).f10)] 32 (0, 0))) := ⟨by (with_reducible repeat (first | refine blk_drewN ?_ _ | refine blk_drew ?_ | refine blk_alloc ?_ _)); refine blk_far ?_ (by have h_ := Kd.R_ne HO_11.out BK243.out (by decide); intro e_; exact h_ (by rw [e_]; rfl)) _; (with_reducible repeat (first | refine blk_drewN ?_ _ | refine blk_drew ?_ | refine blk_alloc ?_ _)); refine blk_far ?_ (by have h_ := Kd.R_ne HO_11.out BK243.out (by decide); intro e_; exact h_ (by rw [e_]; rfl)) _; (with_reducible repeat (first | refine blk_drewN ?_ _ | refine blk_drew ?_ | refine blk_alloc ?_ _)); exact BK243.out⟩
                                   have n3_ : Aside0 (Below w.heap.size w ((w55.setCell ⟨go33, (x57_2 : Int).toNat * 2, none⟩ (.int .i64 (wrap64 ((rd ((rd_T32 l1 a0_0).f6) 0) + (wrap64 (((rd_T32 l1 a0_0).f8) * t242)))))).setCell ⟨go33, (x57_2 : Int).toNat * 2 + 1, none⟩ (.int .i64 (wrap64 ((rd ((rd_T32 l1 a0_0).f7) 0) + (wrap64 (((rd_T32 l1 a0_0).f8) * t242))))))) := ⟨by repeat (first | (with_reducible first | exact HB.out | apply below_alloc | apply pw_below_drewN | apply below_drew1 | refine below_set ?_ GB33.out | refine below_set ?_ GB33.out | refine below_set ?_ GE233.out | refine below_set ?_ GE243.out) | exact HB.out)⟩
                                   (try clear HO_11)
                                   (try clear BK233)
                                   (try clear BK243)
                                   (try clear HB)
                                   generalize ((w55.setCell ⟨go33, (x57_2 : Int).toNat * 2, none⟩ (.int .i64 (wrap64 ((rd ((rd_T32 l1 a0_0).f6) 0) + (wrap64 (((rd_T32 l1 a0_0).f8) * t242)))))).setCell ⟨go33, (x57_2 : Int).toNat * 2 + 1, none⟩ (.int .i64 (wrap64 ((rd ((rd_T32 l1 a0_0).f7) 0) + (wrap64 (((rd_T32 l1 a0_0).f8) * t242)))))) = w57 at n0_ n1_ n2_ n3_ ⊢
                                   have HO_11 := n0_
                                   have BK233 := n1_
                                   have BK243 := n2_
                                   have HB := n3_
                                   clear n0_ n1_ n2_ n3_
                                   have n0_ := Aside0.mk (Kd.R_drew HO_11.out)
                                   have n1_ := Aside0.mk (blk_drew BK233.out)
                                   have n2_ := Aside0.mk (blk_drew BK243.out)
                                   have n3_ := Aside0.mk (below_drew1 HB.out)
                                   clear HO_11
                                   clear BK233
                                   clear BK243
                                   clear HB
                                   have HO_11 := n0_
                                   have BK233 := n1_
                                   have BK243 := n2_
                                   have HB := n3_
                                   clear n0_ n1_ n2_ n3_
                                   have p247 : 0 ≤ (x57_2 : Int) := of_decide_eq_true (by first | (with_reducible assumption) | assumption)
                                   have q247 : x57_2 < (y246.length : Int) := (by have h_ : (x57_2 : Int) < ((x11_2.length : Int) : Int) := of_decide_eq_true (by first | (with_reducible assumption) | assumption); first | (have e_ := (Kd.R_reads' HO_11.out).1; omega) | simpa only [Ny246.out, List.length_set] using h_)
                                   have ql247 : ((x57_2 : Int) < ((x11_2.length : Int) : Int)) = True := eq_true (of_decide_eq_true (by first | (with_reducible assumption) | assumption))
                                   obtain ⟨ad247, e247, hx247_0, hx247_1⟩ := at_T45 (Kd.R_reads' HO_11.out).2.2 x57_2 p247 q247
                                   obtain rfl : (⟨go33, 0, none⟩ : Addr) = ad247 := (by injection e247)
                                   (first | simp only [add_plain] at hx247_0 | simp only [add_at] at hx247_0 | simp only [Addr.add, Nat.zero_add] at hx247_0 | skip)
                                   (first | simp only [add_plain] at hx247_1 | simp only [add_at] at hx247_1 | simp only [Addr.add, Nat.zero_add] at hx247_1 | skip)
                                   replace p247 := eq_true p247
                                   replace q247 := eq_true q247
                                   have p248 : 0 ≤ ((rd l0_1 x57_2) : Int) := of_decide_eq_true (by first | (with_reducible assumption) | assumption)
                                   have q248 : (rd l0_1 x57_2) < (y246.length : Int) := (by have h_ : ((rd l0_1 x57_2) : Int) < ((x11_2.length : Int) : Int) := of_decide_eq_true (by first | (with_reducible assumption) | assumption); first | (have e_ := (Kd.R_reads' HO_11.out).1; omega) | simpa only [Ny246.out, List.length_set] using h_)
                                   have ql248 : (((rd l0_1 x57_2) : Int) < ((x11_2.length : Int) : Int)) = True := eq_true (of_decide_eq_true (by first | (with_reducible assumption) | assumption))
                                   obtain ⟨ad248, e248, hx248_0, hx248_1⟩ := at_T45 (Kd.R_reads' HO_11.out).2.2 (rd l0_1 x57_2) p248 q248
                                   obtain rfl : (⟨go33, 0, none⟩ : Addr) = ad248 := (by injection e248)
                                   (first | simp only [add_plain] at hx248_0 | simp only [add_at] at hx248_0 | simp only [Addr.add, Nat.zero_add] at hx248_0 | skip)
                                   (first | simp only [add_plain] at hx248_1 | simp only [add_at] at hx248_1 | simp only [Addr.add, Nat.zero_add] at hx248_1 | skip)
                                   replace p248 := eq_true p248
                                   replace q248 := eq_true q248
                                   have p249 : 0 ≤ (x57_2 : Int) := of_decide_eq_true (by first | (with_reducible assumption) | assumption)
                                   have q249 : x57_2 < (y246.length : Int) := (by have h_ : (x57_2 : Int) < ((x11_2.length : Int) : Int) := of_decide_eq_true (by first | (with_reducible assumption) | assumption); first | (have e_ := (Kd.R_reads' HO_11.out).1; omega) | simpa only [Ny246.out, List.length_set] using h_)
                                   have ql249 : ((x57_2 : Int) < ((x11_2.length : Int) : Int)) = True := eq_true (of_decide_eq_true (by first | (with_reducible assumption) | assumption))
                                   obtain ⟨ad249, e249, hx249_0, hx249_1⟩ := at_T45 (Kd.R_reads' HO_11.out).2.2 x57_2 p249 q249
                                   obtain rfl : (⟨go33, 0, none⟩ : Addr) = ad249 := (by injection e249)
                                   (first | simp only [add_plain] at hx249_0 | simp only [add_at] at hx249_0 | simp only [Addr.add, Nat.zero_add] at hx249_0 | skip)
                                   (first | simp only [add_plain] at hx249_1 | simp only [add_at] at hx249_1 | simp only [Addr.add, Nat.zero_add] at hx249_1 | skip)
                                   replace p249 := eq_true p249
                                   replace q249 := eq_true q249
                                   have p250 : 0 ≤ ((rd l0_1 x57_2) : Int) := of_decide_eq_true (by first | (with_reducible assumption) | assumption)
                                   have q250 : (rd l0_1 x57_2) < (y246.length : Int) := (by have h_ : ((rd l0_1 x57_2) : Int) < ((x11_2.length : Int) : Int) := of_decide_eq_true (by first | (with_reducible assumption) | assumption); first | (have e_ := (Kd.R_reads' HO_11.out).1; omega) | simpa only [Ny246.out, List.length_set] using h_)
                                   have ql250 : (((rd l0_1 x57_2) : Int) < ((x11_2.length : Int) : Int)) = True := eq_true (of_decide_eq_true (by first | (with_reducible assumption) | assumption))
                                   obtain ⟨ad250, e250, hx250_0, hx250_1⟩ := at_T45 (Kd.R_reads' HO_11.out).2.2 (rd l0_1 x57_2) p250 q250
                                   obtain rfl : (⟨go33, 0, none⟩ : Addr) = ad250 := (by injection e250)
                                   (first | simp only [add_plain] at hx250_0 | simp only [add_at] at hx250_0 | simp only [Addr.add, Nat.zero_add] at hx250_0 | skip)
                                   (first | simp only [add_plain] at hx250_1 | simp only [add_at] at hx250_1 | simp only [Addr.add, Nat.zero_add] at hx250_1 | skip)
                                   replace p250 := eq_true p250
                                   replace q250 := eq_true q250
                                   have p37 : 0 ≤ (x57_2 : Int) := of_decide_eq_true (by first | (with_reducible assumption) | assumption)
                                   have q37 : (x57_2 : Int) < ((x11_2.length : Int) : Int) := of_decide_eq_true (by first | (with_reducible assumption) | assumption)
                                   obtain ⟨ce37, hcl37, hM37, hcc37, hfr37⟩ := Kd.R_elem HO_11.out z45 (x57_2 : Int) p37 q37
                                   obtain rfl := k45_openM hM37
                                   have hx37_0 : World.cell? _ ⟨go33, (x57_2 : Int).toNat * 2, none⟩ = some (.int .i64 ((rd_T45 y246 x57_2).f0)) := hcc37 0 _ rfl
                                   have hx37_1 : World.cell? _ ⟨go33, (x57_2 : Int).toNat * 2 + 1, none⟩ = some (.int .i64 ((rd_T45 y246 x57_2).f1)) := hcc37 1 _ rfl
                                   have hf37_0 : World.frozen? _ ⟨go33, (x57_2 : Int).toNat * 2, none⟩ = false := hfr37 0
                                   have hf37_1 : World.frozen? _ ⟨go33, (x57_2 : Int).toNat * 2 + 1, none⟩ = false := hfr37 1
                                   clear hcl37 hcc37 hfr37 hM37
                                   replace p37 := eq_true p37
                                   replace q37 := eq_true q37
                                   obtain ⟨ce59, hcl59, hM59, hcc59, hfr59⟩ := Kd.R_elem HO_11.out z45 (x57_2 : Int) (of_decide_eq_true (by first | (with_reducible assumption) | assumption)) (by have h_ : (x57_2 : Int) < ((x11_2.length : Int) : Int) := of_decide_eq_true (by first | (with_reducible assumption) | assumption); first | exact h_ | (have e_ := (Kd.R_reads' HO_11.out).1; omega) | simpa using h_)
                                   obtain rfl := k45_openM hM59
                                   have HP59 := (Kd.R_seg HO_11.out (x57_2 : Int) (of_decide_eq_true (by first | (with_reducible assumption) | assumption)) (by have h_ : (x57_2 : Int) < ((x11_2.length : Int) : Int) := of_decide_eq_true (by first | (with_reducible assumption) | assumption); first | exact h_ | (have e_ := (Kd.R_reads' HO_11.out).1; omega) | simpa using h_) (seg := [.int .i64 (wrap64 (((rd_T45 y246 x57_2).f0) + ((rd_T45 y246 (rd l0_1 x57_2)).f0)))]) (j := 0) hcl59 hcc59 (show 1 ≤ 2 from by decide) (x' := (⟨wrap64 (((rd_T45 y246 x57_2).f0) + ((rd_T45 y246 (rd l0_1 x57_2)).f0)), (rd_T45 y246 x57_2).f1⟩ : S45)) (k45_mkM _ _ _ (⟨wrap64 (((rd_T45 y246 x57_2).f0) + ((rd_T45 y246 (rd l0_1 x57_2)).f0)), (rd_T45 y246 x57_2).f1⟩ : S45) ) (fun _ hk => hk)).1
                                   rw [← Ny251.out] at HP59
                                   have HQ59 := Aside0.mk HP59
                                   clear hcl59 hcc59 hfr59 hM59 HP59
                                   have p38 : 0 ≤ (x57_2 : Int) := of_decide_eq_true (by first | (with_reducible assumption) | assumption)
                                   have q38 : (x57_2 : Int) < ((x11_2.length : Int) : Int) := of_decide_eq_true (by first | (with_reducible assumption) | assumption)
                                   replace p38 := eq_true p38
                                   replace q38 := eq_true q38
                                   obtain ⟨ce60, hcl60, hM60, hcc60, hfr60⟩ := Kd.R_elem HQ59.out z45 (x57_2 : Int) (of_decide_eq_true (by first | (with_reducible assumption) | assumption)) (by have h_ : (x57_2 : Int) < ((x11_2.length : Int) : Int) := of_decide_eq_true (by first | (with_reducible assumption) | assumption); first | exact h_ | (have e_ := (Kd.R_reads' HO_11.out).1; omega) | simpa using h_)
                                   obtain rfl := k45_openM hM60
                                   have HP60 := (Kd.R_seg HQ59.out (x57_2 : Int) (of_decide_eq_true (by first | (with_reducible assumption) | assumption)) (by have h_ : (x57_2 : Int) < ((x11_2.length : Int) : Int) := of_decide_eq_true (by first | (with_reducible assumption) | assumption); first | exact h_ | (have e_ := (Kd.R_reads' HO_11.out).1; omega) | simpa using h_) (seg := [.int .i64 (wrap64 (((rd_T45 y246 x57_2).f1) + ((rd_T45 y246 (rd l0_1 x57_2)).f1)))]) (j := 1) hcl60 hcc60 (show 2 ≤ 2 from by decide) (x' := (⟨(rd_T45 y251 x57_2).f0, wrap64 (((rd_T45 y246 x57_2).f1) + ((rd_T45 y246 (rd l0_1 x57_2)).f1))⟩ : S45)) (k45_mkM _ _ _ (⟨(rd_T45 y251 x57_2).f0, wrap64 (((rd_T45 y246 x57_2).f1) + ((rd_T45 y246 (rd l0_1 x57_2)).f1))⟩ : S45) ) (fun _ hk => hk)).1
                                   rw [← Ny252.out] at HP60
                                   have HQ60 := Aside0.mk HP60
                                   clear hcl60 hcc60 hfr60 hM60 HP60
                                   refine start_ (n := 32) (S := fun w' => w'.cell? ⟨go33, (x57_2).toNat * 2, none⟩ = some (.int .i64 ((rd_T45 y246 x57_2).f0)) ∧ w'.cell? ⟨go33, (x57_2).toNat * 2 + 1, none⟩ = some (.int .i64 ((rd_T45 y246 x57_2).f1)) ∧ w'.cell? ⟨go33, ((rd l0_1 x57_2)).toNat * 2, none⟩ = some (.int .i64 ((rd_T45 y246 (rd l0_1 x57_2)).f0)) ∧ w'.cell? ⟨go33, ((rd l0_1 x57_2)).toNat * 2 + 1, none⟩ = some (.int .i64 ((rd_T45 y246 (rd l0_1 x57_2)).f1)) ∧ w'.cell? ⟨go33, (x57_2).toNat * 2, none⟩ = some (.int .i64 ((rd_T45 y246 x57_2).f0)) ∧ w'.cell? ⟨go33, (x57_2).toNat * 2 + 1, none⟩ = some (.int .i64 ((rd_T45 y246 x57_2).f1)) ∧ w'.cell? ⟨go33, ((rd l0_1 x57_2)).toNat * 2, none⟩ = some (.int .i64 ((rd_T45 y246 (rd l0_1 x57_2)).f0)) ∧ w'.cell? ⟨go33, ((rd l0_1 x57_2)).toNat * 2 + 1, none⟩ = some (.int .i64 ((rd_T45 y246 (rd l0_1 x57_2)).f1))) (ds := [28, 31]) (zb 0 32) (by kernel_rfl) rfl rfl ⟨hx247_0, hx247_1, hx248_0, hx248_1, hx249_0, hx249_1, hx250_0, hx250_1⟩ (fun hHeld => ?_); refine with_tabW tree_Arrivals.tab17 tree_Arrivals.bits17 (fun HT_ HW_ => ?_)
                                   generalize w57.drew = w58 at HO_11 BK233 BK243 HB HQ56 HQ59 HQ60 hf37_0 hf37_1 hx247_0 hx247_1 hx248_0 hx248_1 hx249_0 hx249_1 hx250_0 hx250_1 hx37_0 hx37_1 hHeld ⊢
                                   refine pure_ (i := 0) (N := some 96) (v := ?_) (a' := ?_) (zb 1 31) rfl rfl (any_of HT_.out (by kernel_rfl)) (fun _ _ _ h => h) (Or.inl ⟨by rfl, ?_⟩) ?_ ?_
                                   rotate_left; focus (intro w'; go_simp; with_reducible rfl)
                                   rotate_left; focus (simp only [Act.put, z1, z2, z3, i64_w, i32_w]; rfl)
                                   refine pure_ (i := 1) (N := some 97) (v := ?_) (a' := ?_) (zb 2 30) rfl rfl (any_of HT_.out (by kernel_rfl)) (fun _ _ _ h => h) (Or.inl ⟨by rfl, ?_⟩) ?_ ?_
                                   rotate_left; focus (intro w'; go_simp; with_reducible rfl)
                                   rotate_left; focus (simp only [Act.put, z1, z2, z3, i64_w, i32_w]; rfl)
                                   refine pure_ (i := 2) (N := some 98) (v := ?_) (a' := ?_) (zb 3 29) rfl rfl (any_of HT_.out (by kernel_rfl)) (fun _ _ _ h => h) (Or.inl ⟨by rfl, ?_⟩) ?_ ?_
                                   rotate_left; focus (intro w'; go_simp; with_reducible rfl)
                                   rotate_left; focus (simp only [Act.put, z1, z2, z3, i64_w, i32_w]; rfl)
                                   refine pure_ (i := 3) (N := some 99) (v := ?_) (a' := ?_) (zb 4 28) rfl rfl (any_of HT_.out (by kernel_rfl)) (fun _ _ _ h => h) (Or.inl ⟨by rfl, ?_⟩) ?_ ?_
                                   rotate_left; focus (intro w'; go_simp; with_reducible rfl)
                                   rotate_left; focus (simp only [Act.put, z1, z2, z3, i64_w, i32_w]; rfl)
                                   refine pure_ (i := 4) (N := some 100) (v := ?_) (a' := ?_) (zb 5 27) rfl rfl (any_of HT_.out (by kernel_rfl)) (fun _ _ _ h => h) (Or.inl ⟨by rfl, ?_⟩) ?_ ?_
                                   rotate_left; focus (intro w'; go_simp; with_reducible rfl)
                                   rotate_left; focus (simp only [Act.put, z1, z2, z3, i64_w, i32_w]; rfl)
                                   refine pure_ (i := 5) (N := some 101) (v := ?_) (a' := ?_) (zb 6 26) rfl rfl (any_of HT_.out (by kernel_rfl)) (fun _ _ _ h => h) (Or.inl ⟨by rfl, ?_⟩) ?_ ?_
                                   rotate_left; focus (intro w'; go_simp; with_reducible rfl)
                                   rotate_left; focus (simp only [Act.put, z1, z2, z3, i64_w, i32_w]; rfl)
                                   refine pure_ (i := 6) (N := some 102) (v := ?_) (a' := ?_) (zb 7 25) rfl rfl (any_of HT_.out (by kernel_rfl)) (fun _ _ _ h => h) (Or.inl ⟨by rfl, ?_⟩) ?_ ?_
                                   rotate_left; focus (intro w'; go_simp; with_reducible rfl)
                                   rotate_left; focus (simp only [Act.put, z1, z2, z3, i64_w, i32_w]; rfl)
                                   refine pure_ (i := 7) (N := some 103) (v := ?_) (a' := ?_) (zb 8 24) rfl rfl (any_of HT_.out (by kernel_rfl)) (fun _ _ _ h => h) (Or.inl ⟨by rfl, ?_⟩) ?_ ?_
                                   rotate_left; focus (intro w'; go_simp; with_reducible rfl)
                                   rotate_left; focus (simp only [Act.put, z1, z2, z3, i64_w, i32_w]; rfl)
                                   refine pure_ (i := 9) (N := some 105) (v := ?_) (a' := ?_) #[true,true,true,true,true,true,true,true,false,true,false,false,false,false,false,false,false,false,false,false,false,false,false,false,false,false,false,false,false,false,false,false] rfl rfl (any_of HT_.out (by kernel_rfl)) (fun _ _ _ h => h) (Or.inl ⟨by rfl, ?_⟩) ?_ ?_
                                   rotate_left; focus (intro w'; go_simp; with_reducible rfl)
                                   rotate_left; focus (simp only [Act.put, z1, z2, z3, i64_w, i32_w]; rfl)
                                   refine pure_ (i := 10) (N := some 106) (v := ?_) (a' := ?_) #[true,true,true,true,true,true,true,true,false,true,true,false,false,false,false,false,false,false,false,false,false,false,false,false,false,false,false,false,false,false,false,false] rfl rfl (any_of HT_.out (by kernel_rfl)) (fun _ _ _ h => h) (Or.inl ⟨by rfl, ?_⟩) ?_ ?_
                                   rotate_left; focus (intro w'; go_simp; with_reducible rfl)
                                   rotate_left; focus (simp only [Act.put, z1, z2, z3, i64_w, i32_w]; rfl)
                                   refine pure_ (i := 11) (N := some 107) (v := ?_) (a' := ?_) #[true,true,true,true,true,true,true,true,false,true,true,true,false,false,false,false,false,false,false,false,false,false,false,false,false,false,false,false,false,false,false,false] rfl rfl (any_of HT_.out (by kernel_rfl)) (fun _ _ _ h => h) (Or.inl ⟨by rfl, ?_⟩) ?_ ?_
                                   rotate_left; focus (intro w'; go_simp; with_reducible rfl)
                                   rotate_left; focus (simp only [Act.put, z1, z2, z3, i64_w, i32_w]; rfl)
                                   refine pure_ (i := 12) (N := some 108) (v := ?_) (a' := ?_) #[true,true,true,true,true,true,true,true,false,true,true,true,true,false,false,false,false,false,false,false,false,false,false,false,false,false,false,false,false,false,false,false] rfl rfl (any_of HT_.out (by kernel_rfl)) (fun _ _ _ h => h) (Or.inl ⟨by rfl, ?_⟩) ?_ ?_
                                   rotate_left; focus (intro w'; go_simp; with_reducible rfl)
                                   rotate_left; focus (simp only [Act.put, z1, z2, z3, i64_w, i32_w]; rfl)
                                   refine pure_ (i := 15) (N := some 111) (v := ?_) (a' := ?_) #[true,true,true,true,true,true,true,true,false,true,true,true,true,false,false,true,false,false,false,false,false,false,false,false,false,false,false,false,false,false,false,false] rfl rfl (any_of HT_.out (by kernel_rfl)) (fun _ _ _ h => h) (Or.inl ⟨by rfl, ?_⟩) ?_ ?_
                                   rotate_left; focus (intro w'; go_simp; with_reducible rfl)
                                   rotate_left; focus (simp only [Act.put, z1, z2, z3, i64_w, i32_w]; rfl)
                                   refine pure_ (i := 16) (N := some 112) (v := ?_) (a' := ?_) #[true,true,true,true,true,true,true,true,false,true,true,true,true,false,false,true,true,false,false,false,false,false,false,false,false,false,false,false,false,false,false,false] rfl rfl (any_of HT_.out (by kernel_rfl)) (fun _ _ _ h => h) (Or.inl ⟨by rfl, ?_⟩) ?_ ?_
                                   rotate_left; focus (intro w'; go_simp; with_reducible rfl)
                                   rotate_left; focus (simp only [Act.put, z1, z2, z3, i64_w, i32_w]; rfl)
                                   refine pure_ (i := 17) (N := some 113) (v := ?_) (a' := ?_) #[true,true,true,true,true,true,true,true,false,true,true,true,true,false,false,true,true,true,false,false,false,false,false,false,false,false,false,false,false,false,false,false] rfl rfl (any_of HT_.out (by kernel_rfl)) (fun _ _ _ h => h) (Or.inl ⟨by rfl, ?_⟩) ?_ ?_
                                   rotate_left; focus (intro w'; go_simp; with_reducible rfl)
                                   rotate_left; focus (simp only [Act.put, z1, z2, z3, i64_w, i32_w]; rfl)
                                   refine pure_ (i := 18) (N := some 114) (v := ?_) (a' := ?_) #[true,true,true,true,true,true,true,true,false,true,true,true,true,false,false,true,true,true,true,false,false,false,false,false,false,false,false,false,false,false,false,false] rfl rfl (any_of HT_.out (by kernel_rfl)) (fun _ _ _ h => h) (Or.inl ⟨by rfl, ?_⟩) ?_ ?_
                                   rotate_left; focus (intro w'; go_simp; with_reducible rfl)
                                   rotate_left; focus (simp only [Act.put, z1, z2, z3, i64_w, i32_w]; rfl)
                                   refine pure_ (i := 20) (N := some 116) (v := ?_) (a' := ?_) #[true,true,true,true,true,true,true,true,false,true,true,true,true,false,false,true,true,true,true,false,true,false,false,false,false,false,false,false,false,false,false,false] rfl rfl (any_of HT_.out (by kernel_rfl)) (fun _ _ _ h => h) (Or.inl ⟨by rfl, ?_⟩) ?_ ?_
                                   rotate_left; focus (intro w'; go_simp; with_reducible rfl)
                                   rotate_left; focus (simp only [Act.put, z1, z2, z3, i64_w, i32_w]; rfl)
                                   refine pure_ (i := 21) (N := some 117) (v := ?_) (a' := ?_) #[true,true,true,true,true,true,true,true,false,true,true,true,true,false,false,true,true,true,true,false,true,true,false,false,false,false,false,false,false,false,false,false] rfl rfl (any_of HT_.out (by kernel_rfl)) (fun _ _ _ h => h) (Or.inl ⟨by rfl, ?_⟩) ?_ ?_
                                   rotate_left; focus (intro w'; go_simp; with_reducible rfl)
                                   rotate_left; focus (simp only [Act.put, z1, z2, z3, i64_w, i32_w]; rfl)
                                   refine pure_ (i := 22) (N := some 118) (v := ?_) (a' := ?_) #[true,true,true,true,true,true,true,true,false,true,true,true,true,false,false,true,true,true,true,false,true,true,true,false,false,false,false,false,false,false,false,false] rfl rfl (any_of HT_.out (by kernel_rfl)) (fun _ _ _ h => h) (Or.inl ⟨by rfl, ?_⟩) ?_ ?_
                                   rotate_left; focus (intro w'; go_simp; with_reducible rfl)
                                   rotate_left; focus (simp only [Act.put, z1, z2, z3, i64_w, i32_w]; rfl)
                                   refine pure_ (i := 23) (N := some 119) (v := ?_) (a' := ?_) #[true,true,true,true,true,true,true,true,false,true,true,true,true,false,false,true,true,true,true,false,true,true,true,true,false,false,false,false,false,false,false,false] rfl rfl (any_of HT_.out (by kernel_rfl)) (fun _ _ _ h => h) (Or.inl ⟨by rfl, ?_⟩) ?_ ?_
                                   rotate_left; focus (intro w'; go_simp; with_reducible rfl)
                                   rotate_left; focus (simp only [Act.put, z1, z2, z3, i64_w, i32_w]; rfl)
                                   refine take_ (i := 8) (N := some 104) (v := ?_) (a' := ?_) #[true,true,true,true,true,true,true,true,true,true,true,true,true,false,false,true,true,true,true,false,true,true,true,true,false,false,false,false,false,false,false,false] rfl rfl (take_ofW HT_.out HW_.out (by kernel_rfl)) (fun _ _ _ h => h) (Or.inl ⟨by rfl, ?_⟩) hHeld ?_ ?_
                                   rotate_left
                                   · rintro w' ⟨s0, s1, s2, s3, s4, s5, s6, s7⟩
                                     go_simp
                                     with_reducible rfl
                                   rotate_left; focus (simp only [Act.put, z1, z2, z3, i64_w, i32_w]; rfl)
                                   refine take_ (i := 13) (N := some 109) (v := ?_) (a' := ?_) #[true,true,true,true,true,true,true,true,true,true,true,true,true,true,false,true,true,true,true,false,true,true,true,true,false,false,false,false,false,false,false,false] rfl rfl (take_ofW HT_.out HW_.out (by kernel_rfl)) (fun _ _ _ h => h) (Or.inl ⟨by rfl, ?_⟩) hHeld ?_ ?_
                                   rotate_left
                                   · rintro w' ⟨s0, s1, s2, s3, s4, s5, s6, s7⟩
                                     go_simp
                                     with_reducible rfl
                                   rotate_left; focus (simp only [Act.put, z1, z2, z3, i64_w, i32_w]; rfl)
                                   refine pure_ (i := 14) (N := some 110) (v := ?_) (a' := ?_) #[true,true,true,true,true,true,true,true,true,true,true,true,true,true,true,true,true,true,true,false,true,true,true,true,false,false,false,false,false,false,false,false] rfl rfl (any_of HT_.out (by kernel_rfl)) (fun _ _ _ h => h) (Or.inl ⟨by rfl, ?_⟩) ?_ ?_
                                   rotate_left; focus (intro w'; go_simp; with_reducible rfl)
                                   rotate_left; focus (simp only [Act.put, z1, z2, z3, i64_w, i32_w]; rfl)
                                   refine take_ (i := 19) (N := some 115) (v := ?_) (a' := ?_) (zb 24 8) rfl rfl (take_ofW HT_.out HW_.out (by kernel_rfl)) (fun _ _ _ h => h) (Or.inl ⟨by rfl, ?_⟩) hHeld ?_ ?_
                                   rotate_left
                                   · rintro w' ⟨s0, s1, s2, s3, s4, s5, s6, s7⟩
                                     go_simp
                                     with_reducible rfl
                                   rotate_left; focus (simp only [Act.put, z1, z2, z3, i64_w, i32_w]; rfl)
                                   refine take_ (i := 24) (N := some 120) (v := ?_) (a' := ?_) (zb 25 7) rfl rfl (take_ofW HT_.out HW_.out (by kernel_rfl)) (fun _ _ _ h => h) (Or.inl ⟨by rfl, ?_⟩) hHeld ?_ ?_
                                   rotate_left
                                   · rintro w' ⟨s0, s1, s2, s3, s4, s5, s6, s7⟩
                                     go_simp
                                     with_reducible rfl
                                   rotate_left; focus (simp only [Act.put, z1, z2, z3, i64_w, i32_w]; rfl)
                                   refine pure_ (i := 25) (N := some 121) (v := ?_) (a' := ?_) (zb 26 6) rfl rfl (any_of HT_.out (by kernel_rfl)) (fun _ _ _ h => h) (Or.inl ⟨by rfl, ?_⟩) ?_ ?_
                                   rotate_left; focus (intro w'; go_simp; with_reducible rfl)
                                   rotate_left; focus (simp only [Act.put, z1, z2, z3, i64_w, i32_w]; rfl)
                                   refine pure_ (i := 26) (N := some 122) (v := ?_) (a' := ?_) (zb 27 5) rfl rfl (any_of HT_.out (by kernel_rfl)) (fun _ _ _ h => h) (Or.inl ⟨by rfl, ?_⟩) ?_ ?_
                                   rotate_left; focus (intro w'; go_simp; with_reducible rfl)
                                   rotate_left; focus (simp only [Act.put, z1, z2, z3, i64_w, i32_w]; rfl)
                                   refine pure_ (i := 27) (N := some 123) (v := ?_) (a' := ?_) (zb 28 4) rfl rfl (any_of HT_.out (by kernel_rfl)) (fun _ _ _ h => h) (Or.inl ⟨by rfl, ?_⟩) ?_ ?_
                                   rotate_left; focus (intro w'; go_simp; with_reducible rfl)
                                   rotate_left; focus (simp only [Act.put, z1, z2, z3, i64_w, i32_w]; rfl)
                                   refine last_ (i := 28) (N := none) (zb 29 3) rfl rfl (one_of HT_.out (by kernel_rfl)) (by decide) (fun K hK => ?_)
                                   refine skip_ (w1 := ?_) (by rfl) rfl ?_ ?_
                                   rotate_left; focus (go_simp; rfl)
                                   refine hK.out _ _ ?_
                                   clear hK K
                                   refine pure_ (i := 29) (N := some 124) (v := ?_) (a' := ?_) (zb 30 2) rfl rfl (any_of HT_.out (by kernel_rfl)) (fun _ _ _ h => h) (Or.inl ⟨by rfl, ?_⟩) ?_ ?_
                                   rotate_left; focus (intro w'; go_simp; with_reducible rfl)
                                   rotate_left; focus (simp only [Act.put, z1, z2, z3, i64_w, i32_w]; rfl)
                                   refine pure_ (i := 30) (N := some 125) (v := ?_) (a' := ?_) (zb 31 1) rfl rfl (any_of HT_.out (by kernel_rfl)) (fun _ _ _ h => h) (Or.inl ⟨by rfl, ?_⟩) ?_ ?_
                                   rotate_left; focus (intro w'; go_simp; with_reducible rfl)
                                   rotate_left; focus (simp only [Act.put, z1, z2, z3, i64_w, i32_w]; rfl)
                                   refine last_ (i := 31) (N := none) (zb 32 0) rfl rfl (one_of HT_.out (by kernel_rfl)) (by decide) (fun K hK => ?_)
                                   refine skip_ (w1 := ?_) (by rfl) rfl ?_ ?_
                                   rotate_left; focus (go_simp; rfl)
                                   refine hK.out _ _ ?_
                                   clear hK K
                                   refine done_ (done_of HT_.out (by kernel_rfl)) ?_
                                   try go_wp2
                                   go_roundg k2
                                   case measure => have := HK1.out; have := HK2.out; omega
                                   case rel => exact ⟨(y252), (wrap64 (x57_2 + 1)), (by first | rfl | (simp; done) | (simp [*]; done)), H', ⟨by have := HK1.out; have := HK2.out; omega⟩, ⟨by (with_reducible repeat (first | apply Kd.R_alloc | apply Kd.R_drewN | apply Kd.R_drew)); exact HQ60.out⟩, ⟨by (with_reducible repeat (first | refine blk_drewN ?_ _ | refine blk_drew ?_ | refine blk_alloc ?_ _)); refine blk_far ?_ (by have h_ := Kd.R_ne HO_11.out BK233.out (by decide); intro e_; exact h_ (by rw [e_]; rfl)) _; (with_reducible repeat (first | refine blk_drewN ?_ _ | refine blk_drew ?_ | refine blk_alloc ?_ _)); refine blk_far ?_ (by have h_ := Kd.R_ne HO_11.out BK233.out (by decide); intro e_; exact h_ (by rw [e_]; rfl)) _; (with_reducible repeat (first | refine blk_drewN ?_ _ | refine blk_drew ?_ | refine blk_alloc ?_ _)); exact BK233.out⟩, ⟨by repeat (first | (with_reducible first | exact HB.out | apply below_alloc | apply pw_below_drewN | apply below_drew1 | refine below_set ?_ GB33.out | refine below_set ?_ GB33.out | refine below_set ?_ GE233.out | refine below_set ?_ GE243.out) | exact HB.out)⟩⟩
                                 · rw [if_neg c36] at H
                                   exact absurd H (by simp)
                               · rw [if_neg c35] at H
                                 exact absurd H (by simp)
                             · rw [if_neg c34] at H
                               have c34b0 : decide (0 ≤ (rd l0_1 x57_2)) = false := decide_eq_false c34
                               clear c34
                               have H' := Aside0.mk H
                               clear H
                               have p240 : 0 ≤ (x57_2 : Int) := of_decide_eq_true (by first | (with_reducible assumption) | assumption)
                               have q240 : x57_2 < (l0_1.length : Int) := of_decide_eq_true (by first | (with_reducible assumption) | assumption)
                               obtain ⟨ad240, e240, hx240_0⟩ := Kd.at_int HR0_1.out x57_2 p240 q240
                               cases e240
                               replace hx240_0 := (HB.out.cell (World.block_lt_of_cell? w _ hx240_0)).trans hx240_0
                               replace p240 := eq_true p240
                               replace q240 := eq_true q240
                               try go_wp2
                               have n0_ := Aside0.mk (Kd.R_drew HO_11.out)
                               have n1_ := Aside0.mk (blk_drew BK233.out)
                               have n2_ := Aside0.mk (below_drew1 HB.out)
                               clear HO_11
                               clear BK233
                               clear HB
                               have HO_11 := n0_
                               have BK233 := n1_
                               have HB := n2_
                               clear n0_ n1_ n2_
                               have p241 : 0 ≤ (a0_0 : Int) := of_decide_eq_true (by first | (with_reducible assumption) | assumption)
                               have q241 : a0_0 < (l1.length : Int) := of_decide_eq_true (by first | (with_reducible assumption) | assumption)
                               obtain ⟨ad241, A241_5, c241_5, A241_6, c241_6, A241_7, c241_7, e241, hx241_0, hx241_1, hx241_2, hx241_3, hx241_4, hx241_5, hx241_6, hx241_7, hx241_8, hx241_9, hx241_10, hl241_5, hi241_5, hl241_6, hi241_6, hl241_7, hi241_7⟩ := at_T32 HR1.out a0_0 p241 q241
                               have hw241_10 := hx241_10
                               have hw241_9 := hx241_9
                               have hw241_8 := hx241_8
                               have hw241_7 := hx241_7
                               have hw241_6 := hx241_6
                               have hw241_5 := hx241_5
                               have hw241_4 := hx241_4
                               have hw241_3 := hx241_3
                               have hw241_2 := hx241_2
                               have hw241_1 := hx241_1
                               have hw241_0 := hx241_0
                               cases e241
                               replace hx241_0 := (HB.out.cell (World.block_lt_of_cell? w _ hx241_0)).trans hx241_0
                               replace hx241_1 := (HB.out.cell (World.block_lt_of_cell? w _ hx241_1)).trans hx241_1
                               replace hx241_2 := (HB.out.cell (World.block_lt_of_cell? w _ hx241_2)).trans hx241_2
                               replace hx241_3 := (HB.out.cell (World.block_lt_of_cell? w _ hx241_3)).trans hx241_3
                               replace hx241_4 := (HB.out.cell (World.block_lt_of_cell? w _ hx241_4)).trans hx241_4
                               replace hx241_5 := (HB.out.cell (World.block_lt_of_cell? w _ hx241_5)).trans hx241_5
                               replace hx241_6 := (HB.out.cell (World.block_lt_of_cell? w _ hx241_6)).trans hx241_6
                               replace hx241_7 := (HB.out.cell (World.block_lt_of_cell? w _ hx241_7)).trans hx241_7
                               replace hx241_8 := (HB.out.cell (World.block_lt_of_cell? w _ hx241_8)).trans hx241_8
                               replace hx241_9 := (HB.out.cell (World.block_lt_of_cell? w _ hx241_9)).trans hx241_9
                               replace hx241_10 := (HB.out.cell (World.block_lt_of_cell? w _ hx241_10)).trans hx241_10
                               have HR241_5 := Aside0.mk hi241_5
                               have HC241_5 := Aside0.mk hl241_5
                               clear hi241_5 hl241_5
                               have HR241_6 := Aside0.mk hi241_6
                               have HC241_6 := Aside0.mk hl241_6
                               clear hi241_6 hl241_6
                               have HR241_7 := Aside0.mk hi241_7
                               have HC241_7 := Aside0.mk hl241_7
                               clear hi241_7 hl241_7
                               replace p241 := eq_true p241
                               replace q241 := eq_true q241
                               refine start_ (n := 13) (S := fun w' => w'.cell? ⟨gb233, 0, none⟩ = some (.int .i64 a0_0) ∧ w'.cell? ⟨gb233, 1, none⟩ = some (.slice (some ad240) l0_1.length c0_1) ∧ w'.cell? ⟨gb233, 2, none⟩ = some (.slice A0_2 l0_2.length c0_2) ∧ w'.cell? (ad241.add ((a0_0).toNat * 11)) = some (.string ((rd_T32 l1 a0_0).f0)) ∧ w'.cell? ⟨(ad241.add ((a0_0).toNat * 11)).block, (ad241.add ((a0_0).toNat * 11)).off + 1, none⟩ = some (.bool ((rd_T32 l1 a0_0).f1)) ∧ w'.cell? ⟨(ad241.add ((a0_0).toNat * 11)).block, (ad241.add ((a0_0).toNat * 11)).off + 2, none⟩ = some (.int .i64 ((rd_T32 l1 a0_0).f2)) ∧ w'.cell? ⟨(ad241.add ((a0_0).toNat * 11)).block, (ad241.add ((a0_0).toNat * 11)).off + 3, none⟩ = some (.int .u64 ((rd_T32 l1 a0_0).f3)) ∧ w'.cell? ⟨(ad241.add ((a0_0).toNat * 11)).block, (ad241.add ((a0_0).toNat * 11)).off + 4, none⟩ = some (.int .i64 ((rd_T32 l1 a0_0).f4)) ∧ w'.cell? ⟨(ad241.add ((a0_0).toNat * 11)).block, (ad241.add ((a0_0).toNat * 11)).off + 5, none⟩ = some (.slice A241_5 ((rd_T32 l1 a0_0).f5).length c241_5) ∧ w'.cell? ⟨(ad241.add ((a0_0).toNat * 11)).block, (ad241.add ((a0_0).toNat * 11)).off + 6, none⟩ = some (.slice A241_6 ((rd_T32 l1 a0_0).f6).length c241_6) ∧ w'.cell? ⟨(ad241.add ((a0_0).toNat * 11)).block, (ad241.add ((a0_0).toNat * 11)).off + 7, none⟩ = some (.slice A241_7 ((rd_T32 l1 a0_0).f7).length c241_7) ∧ w'.cell? ⟨(ad241.add ((a0_0).toNat * 11)).block, (ad241.add ((a0_0).toNat * 11)).off + 8, none⟩ = some (.int .i64 ((rd_T32 l1 a0_0).f8)) ∧ w'.cell? ⟨(ad241.add ((a0_0).toNat * 11)).block, (ad241.add ((a0_0).toNat * 11)).off + 9, none⟩ = some (.int .i64 ((rd_T32 l1 a0_0).f9)) ∧ w'.cell? ⟨(ad241.add ((a0_0).toNat * 11)).block, (ad241.add ((a0_0).toNat * 11)).off + 10, none⟩ = some (.int .i64 ((rd_T32 l1 a0_0).f10))) (ds := []) (zb 0 13) (by kernel_rfl) rfl rfl ⟨(blk_cell BK233.out 0).trans rfl, (blk_cell BK233.out 1).trans rfl, (blk_cell BK233.out 2).trans rfl, ((HB.out.cell (World.block_lt_of_cell? w _ hw241_0)).trans hw241_0), ((HB.out.cell (World.block_lt_of_cell? w _ hw241_1)).trans hw241_1), ((HB.out.cell (World.block_lt_of_cell? w _ hw241_2)).trans hw241_2), ((HB.out.cell (World.block_lt_of_cell? w _ hw241_3)).trans hw241_3), ((HB.out.cell (World.block_lt_of_cell? w _ hw241_4)).trans hw241_4), ((HB.out.cell (World.block_lt_of_cell? w _ hw241_5)).trans hw241_5), ((HB.out.cell (World.block_lt_of_cell? w _ hw241_6)).trans hw241_6), ((HB.out.cell (World.block_lt_of_cell? w _ hw241_7)).trans hw241_7), ((HB.out.cell (World.block_lt_of_cell? w _ hw241_8)).trans hw241_8), ((HB.out.cell (World.block_lt_of_cell? w _ hw241_9)).trans hw241_9), ((HB.out.cell (World.block_lt_of_cell? w _ hw241_10)).trans hw241_10)⟩ (fun hHeld => ?_); refine with_tabW tree_Arrivals.tab14 tree_Arrivals.bits14 (fun HT_ HW_ => ?_)
                               generalize wr.drew = w61 at HO_11 BK233 HB HR241_5 HR241_6 HR241_7 hx241_0 hx241_1 hx241_10 hx241_2 hx241_3 hx241_4 hx241_5 hx241_6 hx241_7 hx241_8 hx241_9 hHeld ⊢
                               refine pure_ (i := 0) (N := some 62) (v := ?_) (a' := ?_) (zb 1 12) rfl rfl (any_of HT_.out (by kernel_rfl)) (fun _ _ _ h => h) (Or.inl ⟨by rfl, ?_⟩) ?_ ?_
                               rotate_left; focus (intro w'; go_simp; with_reducible rfl)
                               rotate_left; focus (simp only [Act.put, z1, z2, z3, i64_w, i32_w]; rfl)
                               refine pure_ (i := 1) (N := some 63) (v := ?_) (a' := ?_) (zb 2 11) rfl rfl (any_of HT_.out (by kernel_rfl)) (fun _ _ _ h => h) (Or.inl ⟨by rfl, ?_⟩) ?_ ?_
                               rotate_left; focus (intro w'; go_simp; with_reducible rfl)
                               rotate_left; focus (simp only [Act.put, z1, z2, z3, i64_w, i32_w]; rfl)
                               refine pure_ (i := 6) (N := some 68) (v := ?_) (a' := ?_) #[true,true,false,false,false,false,true,false,false,false,false,false,false] rfl rfl (any_of HT_.out (by kernel_rfl)) (fun _ _ _ h => h) (Or.inl ⟨by rfl, ?_⟩) ?_ ?_
                               rotate_left; focus (intro w'; go_simp; with_reducible rfl)
                               rotate_left; focus (simp only [Act.put, z1, z2, z3, i64_w, i32_w]; rfl)
                               refine pure_ (i := 7) (N := some 69) (v := ?_) (a' := ?_) #[true,true,false,false,false,false,true,true,false,false,false,false,false] rfl rfl (any_of HT_.out (by kernel_rfl)) (fun _ _ _ h => h) (Or.inl ⟨by rfl, ?_⟩) ?_ ?_
                               rotate_left; focus (intro w'; go_simp; with_reducible rfl)
                               rotate_left; focus (simp only [Act.put, z1, z2, z3, i64_w, i32_w]; rfl)
                               refine pure_ (i := 8) (N := some 70) (v := ?_) (a' := ?_) #[true,true,false,false,false,false,true,true,true,false,false,false,false] rfl rfl (any_of HT_.out (by kernel_rfl)) (fun _ _ _ h => h) (Or.inl ⟨by rfl, ?_⟩) ?_ ?_
                               rotate_left; focus (intro w'; go_simp; with_reducible rfl)
                               rotate_left; focus (simp only [Act.put, z1, z2, z3, i64_w, i32_w]; rfl)
                               refine take_ (i := 2) (N := some 64) (v := ?_) (a' := ?_) #[true,true,true,false,false,false,true,true,true,false,false,false,false] rfl rfl (take_ofW HT_.out HW_.out (by kernel_rfl)) (fun _ _ _ h => h) (Or.inl ⟨by rfl, ?_⟩) hHeld ?_ ?_
                               rotate_left
                               · rintro w' ⟨s0, s1, s2, s3, s4, s5, s6, s7, s8, s9, s10, s11, s12, s13⟩
                                 go_simp
                                 with_reducible rfl
                               rotate_left; focus (simp only [Act.put, z1, z2, z3, i64_w, i32_w]; rfl)
                               refine pure_ (i := 3) (N := some 65) (v := ?_) (a' := ?_) #[true,true,true,true,false,false,true,true,true,false,false,false,false] rfl rfl (any_of HT_.out (by kernel_rfl)) (fun _ _ _ h => h) (Or.inl ⟨by rfl, ?_⟩) ?_ ?_
                               rotate_left; focus (intro w'; go_simp; with_reducible rfl)
                               rotate_left; focus (simp only [Act.put, z1, z2, z3, i64_w, i32_w]; rfl)
                               refine take_ (i := 4) (N := some 66) (v := ?_) (a' := ?_) #[true,true,true,true,true,false,true,true,true,false,false,false,false] rfl rfl (take_ofW HT_.out HW_.out (by kernel_rfl)) (fun _ _ _ h => h) (Or.inl ⟨by rfl, ?_⟩) hHeld ?_ ?_
                               rotate_left
                               · rintro w' ⟨s0, s1, s2, s3, s4, s5, s6, s7, s8, s9, s10, s11, s12, s13⟩
                                 go_simp
                                 with_reducible rfl
                               rotate_left; focus (simp only [Act.put, z1, z2, z3, i64_w, i32_w]; rfl)
                               refine take_ (i := 5) (N := some 67) (v := ?_) (a' := ?_) (zb 9 4) rfl rfl (take_ofW HT_.out HW_.out (by kernel_rfl)) (fun _ _ _ h => h) (Or.inl ⟨by rfl, ?_⟩) hHeld ?_ ?_
                               rotate_left
                               · rintro w' ⟨s0, s1, s2, s3, s4, s5, s6, s7, s8, s9, s10, s11, s12, s13⟩
                                 go_simp
                                 with_reducible rfl
                               rotate_left; focus (simp only [Act.put, z1, z2, z3, i64_w, i32_w]; rfl)
                               refine join_ (σ := Nat) 2 (zb 11 2) (fun s_ => [(71, .int .i64 t242), (14, .pointer (some ⟨s_, 0, none⟩))]) (fun s_ w' => (w'.cell? ⟨gb233, 0, none⟩ = some (.int .i64 a0_0) ∧ w'.cell? ⟨gb233, 1, none⟩ = some (.slice (some ad240) l0_1.length c0_1) ∧ w'.cell? ⟨gb233, 2, none⟩ = some (.slice A0_2 l0_2.length c0_2) ∧ w'.cell? (ad241.add ((a0_0).toNat * 11)) = some (.string ((rd_T32 l1 a0_0).f0)) ∧ w'.cell? ⟨(ad241.add ((a0_0).toNat * 11)).block, (ad241.add ((a0_0).toNat * 11)).off + 1, none⟩ = some (.bool ((rd_T32 l1 a0_0).f1)) ∧ w'.cell? ⟨(ad241.add ((a0_0).toNat * 11)).block, (ad241.add ((a0_0).toNat * 11)).off + 2, none⟩ = some (.int .i64 ((rd_T32 l1 a0_0).f2)) ∧ w'.cell? ⟨(ad241.add ((a0_0).toNat * 11)).block, (ad241.add ((a0_0).toNat * 11)).off + 3, none⟩ = some (.int .u64 ((rd_T32 l1 a0_0).f3)) ∧ w'.cell? ⟨(ad241.add ((a0_0).toNat * 11)).block, (ad241.add ((a0_0).toNat * 11)).off + 4, none⟩ = some (.int .i64 ((rd_T32 l1 a0_0).f4)) ∧ w'.cell? ⟨(ad241.add ((a0_0).toNat * 11)).block, (ad241.add ((a0_0).toNat * 11)).off + 5, none⟩ = some (.slice A241_5 ((rd_T32 l1 a0_0).f5).length c241_5) ∧ w'.cell? ⟨(ad241.add ((a0_0).toNat * 11)).block, (ad241.add ((a0_0).toNat * 11)).off + 6, none⟩ = some (.slice A241_6 ((rd_T32 l1 a0_0).f6).length c241_6) ∧ w'.cell? ⟨(ad241.add ((a0_0).toNat * 11)).block, (ad241.add ((a0_0).toNat * 11)).off + 7, none⟩ = some (.slice A241_7 ((rd_T32 l1 a0_0).f7).length c241_7) ∧ w'.cell? ⟨(ad241.add ((a0_0).toNat * 11)).block, (ad241.add ((a0_0).toNat * 11)).off + 8, none⟩ = some (.int .i64 ((rd_T32 l1 a0_0).f8)) ∧ w'.cell? ⟨(ad241.add ((a0_0).toNat * 11)).block, (ad241.add ((a0_0).toNat * 11)).off + 9, none⟩ = some (.int .i64 ((rd_T32 l1 a0_0).f9)) ∧ w'.cell? ⟨(ad241.add ((a0_0).toNat * 11)).block, (ad241.add ((a0_0).toNat * 11)).off + 10, none⟩ = some (.int .i64 ((rd_T32 l1 a0_0).f10))) ∧ (Kd.R k45 45 w' w.heap.size (fun _ => True) v238 x11_2) ∧ (w'.heap[gb233]? = some (.cells #[.int .i64 a0_0, .slice (some ad240) l0_1.length c0_1, .slice A0_2 l0_2.length c0_2] 24 (0, 0))) ∧ (w'.heap[s_]? = some (.cells #[.string (⟨#[]⟩ : ByteArray), .bool false, .int .i64 0, .int .u64 0, .int .i64 0, .slice none 0 0, .slice none 0 0, .slice none 0 0, .int .i64 0, .int .i64 0, .int .i64 0] 32 (0, 0))) ∧ (w.heap.size ≤ s_) ∧ (w.heap.size ≤ s_) ∧ (gb233 ≠ s_) ∧ (s_ ≠ gb233) ∧ (Below w.heap.size w w')) ?_ ?_
                               rotate_left
                               · intro hCont
                                 refine two_ (i := 9) (j := 10) (Ni := some 71) (Nj := some 14) (zb 10 3) #[true,true,true,true,true,true,true,true,true,false,true,false,false] rfl rfl rfl rfl (two_of HT_.out (by kernel_rfl)) (by decide) (by decide) (fun K hK => ?_) (fun K hK => ?_)
                                 · skip
                                   refine goes_ Try.func21 (by kernel_rfl) rfl #[.agg #[.int .i64 a0_0, .slice (some ad240) l0_1.length c0_1, .slice A0_2 l0_2.length c0_2], .int .i64 x57_2, .slice (some ad241) l1.length c1, .slice A2 l2.length c2] (by rfl) rfl rfl (by (try simp only [List.map_toArray, List.map_cons, List.map_nil]); first | done | rfl | (simp only [List.length_drop, List.length_take]; rfl)) ?_
                                   with_reducible refine (tree_Load.calls k2 a0_0 _ _ l0_1 _ _ l0_2 x57_2 _ _ l1 _ _ l2 t242 _ ?side1 ?side2 ?side3 ?side4 ?side5 ?side6 ?side7 ?side8 A29.out).mono ?_
                                   (case side1 => repeat (first | exact (Kd.C_below HR0_1.out HB.out) | (with_reducible refine Kd.C_alloc ?_ _) | (with_reducible refine Kd.C_drewN ?_ _) | (with_reducible refine Kd.C_drew ?_)))
                                   (case side2 => exact HC0_1.out)
                                   (case side3 => repeat (first | exact (Kd.C_below HR0_2.out HB.out) | (with_reducible refine Kd.C_alloc ?_ _) | (with_reducible refine Kd.C_drewN ?_ _) | (with_reducible refine Kd.C_drew ?_)))
                                   (case side4 => exact HC0_2.out)
                                   (case side5 => repeat (first | exact (Kd.C_below HR1.out HB.out) | (with_reducible refine Kd.C_alloc ?_ _) | (with_reducible refine Kd.C_drewN ?_ _) | (with_reducible refine Kd.C_drew ?_)))
                                   (case side6 => exact HC1.out)
                                   (case side7 => repeat (first | exact (Kd.C_below HR2.out HB.out) | (with_reducible refine Kd.C_alloc ?_ _) | (with_reducible refine Kd.C_drewN ?_ _) | (with_reducible refine Kd.C_drew ?_)))
                                   (case side8 => exact HC2.out)
                                   rintro e w62 ⟨rfl, hb⟩
                                   refine ⟨_, rfl, ?_⟩
                                   have n0_ := Aside0.mk (Kd.R_below (by (with_reducible repeat (first | apply Kd.R_alloc | apply Kd.R_drewN | apply Kd.R_drew)); exact HO_11.out) hb)
                                   have n1_ := Aside0.mk (blk_below (g := gb233) (o := .cells #[.int .i64 a0_0, .slice (some ad240) l0_1.length c0_1, .slice A0_2 l0_2.length c0_2] 24 (0, 0)) (by (with_reducible repeat (first | refine blk_drewN ?_ _ | refine blk_drew ?_ | refine blk_alloc ?_ _)); exact BK233.out) hb)
                                   have n2_ := Aside0.mk (below_step (by repeat (first | (with_reducible first | exact HB.out | apply below_alloc | apply pw_below_drewN | apply below_drew1 | refine below_set ?_ GE233.out) | exact HB.out)) hb)
                                   clear HO_11
                                   clear BK233
                                   clear HB
                                   have HO_11 := n0_
                                   have BK233 := n1_
                                   have HB := n2_
                                   clear n0_ n1_ n2_
                                   (try clear hb)
                                   (try clear hb2)
                                   (try clear hk)
                                   (try clear hi)
                                   refine hK.out _ _ ⟨(blk_cell BK233.out 0).trans rfl, (blk_cell BK233.out 1).trans rfl, (blk_cell BK233.out 2).trans rfl, ((HB.out.cell (World.block_lt_of_cell? w _ hw241_0)).trans hw241_0), ((HB.out.cell (World.block_lt_of_cell? w _ hw241_1)).trans hw241_1), ((HB.out.cell (World.block_lt_of_cell? w _ hw241_2)).trans hw241_2), ((HB.out.cell (World.block_lt_of_cell? w _ hw241_3)).trans hw241_3), ((HB.out.cell (World.block_lt_of_cell? w _ hw241_4)).trans hw241_4), ((HB.out.cell (World.block_lt_of_cell? w _ hw241_5)).trans hw241_5), ((HB.out.cell (World.block_lt_of_cell? w _ hw241_6)).trans hw241_6), ((HB.out.cell (World.block_lt_of_cell? w _ hw241_7)).trans hw241_7), ((HB.out.cell (World.block_lt_of_cell? w _ hw241_8)).trans hw241_8), ((HB.out.cell (World.block_lt_of_cell? w _ hw241_9)).trans hw241_9), ((HB.out.cell (World.block_lt_of_cell? w _ hw241_10)).trans hw241_10)⟩ (fun hHeld => ?_)
                                   clear hK K
                                   refine norm_ (a' := ?_) ?_ ?_
                                   rotate_left; focus (show Act.put _ (some 71) _ = _; simp only [Act.put, z1, z2, z3, i64_w, i32_w]; rfl)
                                   refine one_ (i := 10) (N := some 14) (zb 11 2) rfl rfl (one_of HT_.out (by kernel_rfl)) (by decide) (fun K hK => ?_)
                                   refine box_step ?hg (N := 14) ?hd (cs := #[.string (⟨#[]⟩ : ByteArray), .bool false, .int .i64 0, .int .u64 0, .int .i64 0, .slice none 0 0, .slice none 0 0, .slice none 0 0, .int .i64 0, .int .i64 0, .int .i64 0]) (t := 32) ?hr ?_; (case hd => rfl); (case hg => rfl); (case hr => first | (go_simp; done) | (go_simp; rfl))
                                   intro gb243 hg w63 hbox hb
                                   have n0_ := Aside0.mk (Kd.R_below (by (with_reducible repeat (first | apply Kd.R_alloc | apply Kd.R_drewN | apply Kd.R_drew)); exact HO_11.out) hb)
                                   have n1_ := Aside0.mk (blk_below (g := gb233) (o := .cells #[.int .i64 a0_0, .slice (some ad240) l0_1.length c0_1, .slice A0_2 l0_2.length c0_2] 24 (0, 0)) (by (with_reducible repeat (first | refine blk_drewN ?_ _ | refine blk_drew ?_ | refine blk_alloc ?_ _)); exact BK233.out) hb)
                                   have n2_ := Aside0.mk (below_step (by repeat (first | (with_reducible first | exact HB.out | apply below_alloc | apply pw_below_drewN | apply below_drew1 | refine below_set ?_ GE233.out) | exact HB.out)) hb)
                                   have n3_ := Aside0.mk (hbox)
                                   have n4_ := Aside0.mk ((by rw [hg]; exact (below_size (by repeat (first | (with_reducible first | exact HB.out | apply below_alloc | apply pw_below_drewN | apply below_drew1 | refine below_set ?_ GE233.out) | exact HB.out))) : w.heap.size ≤ gb243))
                                   have n5_ := Aside0.mk ((by rw [hg]; exact (below_size (by repeat (first | (with_reducible first | exact HB.out | apply below_alloc | apply pw_below_drewN | apply below_drew1 | refine below_set ?_ GE233.out) | exact HB.out))) : w.heap.size ≤ gb243))
                                   have n6_ := Aside0.mk ((by rw [hg]; exact Nat.ne_of_lt (blk_lt (g := gb233) (o := .cells #[.int .i64 a0_0, .slice (some ad240) l0_1.length c0_1, .slice A0_2 l0_2.length c0_2] 24 (0, 0)) (by (with_reducible repeat (first | refine blk_drewN ?_ _ | refine blk_drew ?_ | refine blk_alloc ?_ _)); exact BK233.out)) : gb233 ≠ gb243))
                                   have n7_ := Aside0.mk ((by rw [hg]; exact Nat.ne_of_gt (blk_lt (g := gb233) (o := .cells #[.int .i64 a0_0, .slice (some ad240) l0_1.length c0_1, .slice A0_2 l0_2.length c0_2] 24 (0, 0)) (by (with_reducible repeat (first | refine blk_drewN ?_ _ | refine blk_drew ?_ | refine blk_alloc ?_ _)); exact BK233.out)) : gb243 ≠ gb233))
                                   clear HO_11
                                   clear BK233
                                   clear HB
                                   have HO_11 := n0_
                                   have BK233 := n1_
                                   have HB := n2_
                                   have BK243 := n3_
                                   have GW243 := n4_
                                   have GE243 := n5_
                                   have NB233_243 := n6_
                                   have NB243_233 := n7_
                                   clear n0_ n1_ n2_ n3_ n4_ n5_ n6_ n7_
                                   clear hb hbox hg
                                   refine hK.out _ _ ⟨(blk_cell BK233.out 0).trans rfl, (blk_cell BK233.out 1).trans rfl, (blk_cell BK233.out 2).trans rfl, ((HB.out.cell (World.block_lt_of_cell? w _ hw241_0)).trans hw241_0), ((HB.out.cell (World.block_lt_of_cell? w _ hw241_1)).trans hw241_1), ((HB.out.cell (World.block_lt_of_cell? w _ hw241_2)).trans hw241_2), ((HB.out.cell (World.block_lt_of_cell? w _ hw241_3)).trans hw241_3), ((HB.out.cell (World.block_lt_of_cell? w _ hw241_4)).trans hw241_4), ((HB.out.cell (World.block_lt_of_cell? w _ hw241_5)).trans hw241_5), ((HB.out.cell (World.block_lt_of_cell? w _ hw241_6)).trans hw241_6), ((HB.out.cell (World.block_lt_of_cell? w _ hw241_7)).trans hw241_7), ((HB.out.cell (World.block_lt_of_cell? w _ hw241_8)).trans hw241_8), ((HB.out.cell (World.block_lt_of_cell? w _ hw241_9)).trans hw241_9), ((HB.out.cell (World.block_lt_of_cell? w _ hw241_10)).trans hw241_10)⟩ (fun hHeld => ?_)
                                   clear hK K
                                   refine norm_ (a' := ?_) ?_ ?_
                                   rotate_left; focus (show Act.put _ (some 14) _ = _; simp only [Act.put, z1, z2, z3, i64_w, i32_w]; rfl)
                                   exact norm_ (by simp only [putAll, Act.put, z1, z2, z3]) (hCont (gb243) _ ⟨hHeld, (by (with_reducible repeat (first | apply Kd.R_alloc | apply Kd.R_drewN | apply Kd.R_drew)); exact HO_11.out), (by (with_reducible repeat (first | refine blk_drewN ?_ _ | refine blk_drew ?_ | refine blk_alloc ?_ _)); exact BK233.out), (by (with_reducible repeat (first | refine blk_drewN ?_ _ | refine blk_drew ?_ | refine blk_alloc ?_ _)); exact BK243.out), GW243.out, GE243.out, NB233_243.out, NB243_233.out, (by repeat (first | (with_reducible first | exact HB.out | apply below_alloc | apply pw_below_drewN | apply below_drew1 | refine below_set ?_ GE233.out | refine below_set ?_ GE243.out) | exact HB.out))⟩)
                                 · skip
                                   refine box_step ?hg (N := 14) ?hd (cs := #[.string (⟨#[]⟩ : ByteArray), .bool false, .int .i64 0, .int .u64 0, .int .i64 0, .slice none 0 0, .slice none 0 0, .slice none 0 0, .int .i64 0, .int .i64 0, .int .i64 0]) (t := 32) ?hr ?_; (case hd => rfl); (case hg => rfl); (case hr => first | (go_simp; done) | (go_simp; rfl))
                                   intro gb243 hg w62 hbox hb
                                   have n0_ := Aside0.mk (Kd.R_below (by (with_reducible repeat (first | apply Kd.R_alloc | apply Kd.R_drewN | apply Kd.R_drew)); exact HO_11.out) hb)
                                   have n1_ := Aside0.mk (blk_below (g := gb233) (o := .cells #[.int .i64 a0_0, .slice (some ad240) l0_1.length c0_1, .slice A0_2 l0_2.length c0_2] 24 (0, 0)) (by (with_reducible repeat (first | refine blk_drewN ?_ _ | refine blk_drew ?_ | refine blk_alloc ?_ _)); exact BK233.out) hb)
                                   have n2_ := Aside0.mk (below_step (by repeat (first | (with_reducible first | exact HB.out | apply below_alloc | apply pw_below_drewN | apply below_drew1 | refine below_set ?_ GE233.out) | exact HB.out)) hb)
                                   have n3_ := Aside0.mk (hbox)
                                   have n4_ := Aside0.mk ((by rw [hg]; exact (below_size (by repeat (first | (with_reducible first | exact HB.out | apply below_alloc | apply pw_below_drewN | apply below_drew1 | refine below_set ?_ GE233.out) | exact HB.out))) : w.heap.size ≤ gb243))
                                   have n5_ := Aside0.mk ((by rw [hg]; exact (below_size (by repeat (first | (with_reducible first | exact HB.out | apply below_alloc | apply pw_below_drewN | apply below_drew1 | refine below_set ?_ GE233.out) | exact HB.out))) : w.heap.size ≤ gb243))
                                   have n6_ := Aside0.mk ((by rw [hg]; exact Nat.ne_of_lt (blk_lt (g := gb233) (o := .cells #[.int .i64 a0_0, .slice (some ad240) l0_1.length c0_1, .slice A0_2 l0_2.length c0_2] 24 (0, 0)) (by (with_reducible repeat (first | refine blk_drewN ?_ _ | refine blk_drew ?_ | refine blk_alloc ?_ _)); exact BK233.out)) : gb233 ≠ gb243))
                                   have n7_ := Aside0.mk ((by rw [hg]; exact Nat.ne_of_gt (blk_lt (g := gb233) (o := .cells #[.int .i64 a0_0, .slice (some ad240) l0_1.length c0_1, .slice A0_2 l0_2.length c0_2] 24 (0, 0)) (by (with_reducible repeat (first | refine blk_drewN ?_ _ | refine blk_drew ?_ | refine blk_alloc ?_ _)); exact BK233.out)) : gb243 ≠ gb233))
                                   clear HO_11
                                   clear BK233
                                   clear HB
                                   have HO_11 := n0_
                                   have BK233 := n1_
                                   have HB := n2_
                                   have BK243 := n3_
                                   have GW243 := n4_
                                   have GE243 := n5_
                                   have NB233_243 := n6_
                                   have NB243_233 := n7_
                                   clear n0_ n1_ n2_ n3_ n4_ n5_ n6_ n7_
                                   clear hb hbox hg
                                   refine hK.out _ _ ⟨(blk_cell BK233.out 0).trans rfl, (blk_cell BK233.out 1).trans rfl, (blk_cell BK233.out 2).trans rfl, ((HB.out.cell (World.block_lt_of_cell? w _ hw241_0)).trans hw241_0), ((HB.out.cell (World.block_lt_of_cell? w _ hw241_1)).trans hw241_1), ((HB.out.cell (World.block_lt_of_cell? w _ hw241_2)).trans hw241_2), ((HB.out.cell (World.block_lt_of_cell? w _ hw241_3)).trans hw241_3), ((HB.out.cell (World.block_lt_of_cell? w _ hw241_4)).trans hw241_4), ((HB.out.cell (World.block_lt_of_cell? w _ hw241_5)).trans hw241_5), ((HB.out.cell (World.block_lt_of_cell? w _ hw241_6)).trans hw241_6), ((HB.out.cell (World.block_lt_of_cell? w _ hw241_7)).trans hw241_7), ((HB.out.cell (World.block_lt_of_cell? w _ hw241_8)).trans hw241_8), ((HB.out.cell (World.block_lt_of_cell? w _ hw241_9)).trans hw241_9), ((HB.out.cell (World.block_lt_of_cell? w _ hw241_10)).trans hw241_10)⟩ (fun hHeld => ?_)
                                   clear hK K
                                   refine norm_ (a' := ?_) ?_ ?_
                                   rotate_left; focus (show Act.put _ (some 14) _ = _; simp only [Act.put, z1, z2, z3, i64_w, i32_w]; rfl)
                                   refine one_ (i := 9) (N := some 71) (zb 11 2) rfl rfl (one_of HT_.out (by kernel_rfl)) (by decide) (fun K hK => ?_)
                                   refine goes_ Try.func21 (by kernel_rfl) rfl #[.agg #[.int .i64 a0_0, .slice (some ad240) l0_1.length c0_1, .slice A0_2 l0_2.length c0_2], .int .i64 x57_2, .slice (some ad241) l1.length c1, .slice A2 l2.length c2] (by rfl) rfl rfl (by (try simp only [List.map_toArray, List.map_cons, List.map_nil]); first | done | rfl | (simp only [List.length_drop, List.length_take]; rfl)) ?_
                                   with_reducible refine (tree_Load.calls k2 a0_0 _ _ l0_1 _ _ l0_2 x57_2 _ _ l1 _ _ l2 t242 _ ?side1 ?side2 ?side3 ?side4 ?side5 ?side6 ?side7 ?side8 A29.out).mono ?_
                                   (case side1 => repeat (first | exact (Kd.C_below HR0_1.out HB.out) | (with_reducible refine Kd.C_alloc ?_ _) | (with_reducible refine Kd.C_drewN ?_ _) | (with_reducible refine Kd.C_drew ?_)))
                                   (case side2 => exact HC0_1.out)
                                   (case side3 => repeat (first | exact (Kd.C_below HR0_2.out HB.out) | (with_reducible refine Kd.C_alloc ?_ _) | (with_reducible refine Kd.C_drewN ?_ _) | (with_reducible refine Kd.C_drew ?_)))
                                   (case side4 => exact HC0_2.out)
                                   (case side5 => repeat (first | exact (Kd.C_below HR1.out HB.out) | (with_reducible refine Kd.C_alloc ?_ _) | (with_reducible refine Kd.C_drewN ?_ _) | (with_reducible refine Kd.C_drew ?_)))
                                   (case side6 => exact HC1.out)
                                   (case side7 => repeat (first | exact (Kd.C_below HR2.out HB.out) | (with_reducible refine Kd.C_alloc ?_ _) | (with_reducible refine Kd.C_drewN ?_ _) | (with_reducible refine Kd.C_drew ?_)))
                                   (case side8 => exact HC2.out)
                                   rintro e w63 ⟨rfl, hb⟩
                                   refine ⟨_, rfl, ?_⟩
                                   have n0_ := Aside0.mk (Kd.R_below (by (with_reducible repeat (first | apply Kd.R_alloc | apply Kd.R_drewN | apply Kd.R_drew)); exact HO_11.out) hb)
                                   have n1_ := Aside0.mk (blk_below (g := gb233) (o := .cells #[.int .i64 a0_0, .slice (some ad240) l0_1.length c0_1, .slice A0_2 l0_2.length c0_2] 24 (0, 0)) (by (with_reducible repeat (first | refine blk_drewN ?_ _ | refine blk_drew ?_ | refine blk_alloc ?_ _)); exact BK233.out) hb)
                                   have n2_ := Aside0.mk (blk_below (g := gb243) (o := .cells #[.string (⟨#[]⟩ : ByteArray), .bool false, .int .i64 0, .int .u64 0, .int .i64 0, .slice none 0 0, .slice none 0 0, .slice none 0 0, .int .i64 0, .int .i64 0, .int .i64 0] 32 (0, 0)) (by (with_reducible repeat (first | refine blk_drewN ?_ _ | refine blk_drew ?_ | refine blk_alloc ?_ _)); exact BK243.out) hb)
                                   have n3_ := Aside0.mk (below_step (by repeat (first | (with_reducible first | exact HB.out | apply below_alloc | apply pw_below_drewN | apply below_drew1 | refine below_set ?_ GE233.out | refine below_set ?_ GE243.out) | exact HB.out)) hb)
                                   clear HO_11
                                   clear BK233
                                   clear BK243
                                   clear HB
                                   have HO_11 := n0_
                                   have BK233 := n1_
                                   have BK243 := n2_
                                   have HB := n3_
                                   clear n0_ n1_ n2_ n3_
                                   (try clear hb)
                                   (try clear hb2)
                                   (try clear hk)
                                   (try clear hi)
                                   refine hK.out _ _ ⟨(blk_cell BK233.out 0).trans rfl, (blk_cell BK233.out 1).trans rfl, (blk_cell BK233.out 2).trans rfl, ((HB.out.cell (World.block_lt_of_cell? w _ hw241_0)).trans hw241_0), ((HB.out.cell (World.block_lt_of_cell? w _ hw241_1)).trans hw241_1), ((HB.out.cell (World.block_lt_of_cell? w _ hw241_2)).trans hw241_2), ((HB.out.cell (World.block_lt_of_cell? w _ hw241_3)).trans hw241_3), ((HB.out.cell (World.block_lt_of_cell? w _ hw241_4)).trans hw241_4), ((HB.out.cell (World.block_lt_of_cell? w _ hw241_5)).trans hw241_5), ((HB.out.cell (World.block_lt_of_cell? w _ hw241_6)).trans hw241_6), ((HB.out.cell (World.block_lt_of_cell? w _ hw241_7)).trans hw241_7), ((HB.out.cell (World.block_lt_of_cell? w _ hw241_8)).trans hw241_8), ((HB.out.cell (World.block_lt_of_cell? w _ hw241_9)).trans hw241_9), ((HB.out.cell (World.block_lt_of_cell? w _ hw241_10)).trans hw241_10)⟩ (fun hHeld => ?_)
                                   clear hK K
                                   refine norm_ (a' := ?_) ?_ ?_
                                   rotate_left; focus (show Act.put _ (some 71) _ = _; simp only [Act.put, z1, z2, z3, i64_w, i32_w]; rfl)
                                   exact norm_ (by simp only [putAll, Act.put, z1, z2, z3]) (hCont (gb243) _ ⟨hHeld, (by (with_reducible repeat (first | apply Kd.R_alloc | apply Kd.R_drewN | apply Kd.R_drew)); exact HO_11.out), (by (with_reducible repeat (first | refine blk_drewN ?_ _ | refine blk_drew ?_ | refine blk_alloc ?_ _)); exact BK233.out), (by (with_reducible repeat (first | refine blk_drewN ?_ _ | refine blk_drew ?_ | refine blk_alloc ?_ _)); exact BK243.out), GW243.out, GE243.out, NB233_243.out, NB243_233.out, (by repeat (first | (with_reducible first | exact HB.out | apply below_alloc | apply pw_below_drewN | apply below_drew1 | refine below_set ?_ GE233.out | refine below_set ?_ GE243.out) | exact HB.out))⟩)
                               rintro gb243 w64 ⟨hS_, h0_, h1_, h2_, h3_, h4_, h5_, h6_, h7_⟩
                               have n0_ : Aside0 (Kd.R k45 45 w64 w.heap.size (fun _ => True) v238 x11_2) := ⟨h0_⟩
                               have n1_ : Aside0 (w64.heap[gb233]? = some (.cells #[.int .i64 a0_0, .slice (some ad240) l0_1.length c0_1, .slice A0_2 l0_2.length c0_2] 24 (0, 0))) := ⟨h1_⟩
                               have n2_ : Aside0 (w64.heap[gb243]? = some (.cells #[.string (⟨#[]⟩ : ByteArray), .bool false, .int .i64 0, .int .u64 0, .int .i64 0, .slice none 0 0, .slice none 0 0, .slice none 0 0, .int .i64 0, .int .i64 0, .int .i64 0] 32 (0, 0))) := ⟨h2_⟩
                               have n3_ : Aside0 (w.heap.size ≤ gb243) := ⟨h3_⟩
                               have n4_ : Aside0 (w.heap.size ≤ gb243) := ⟨h4_⟩
                               have n5_ : Aside0 (gb233 ≠ gb243) := ⟨h5_⟩
                               have n6_ : Aside0 (gb243 ≠ gb233) := ⟨h6_⟩
                               have n7_ : Aside0 (Below w.heap.size w w64) := ⟨h7_⟩
                               clear HO_11
                               clear BK233
                               clear HB
                               clear h0_ h1_ h2_ h3_ h4_ h5_ h6_ h7_
                               have HO_11 := n0_
                               have BK233 := n1_
                               have BK243 := n2_
                               have GW243 := n3_
                               have GE243 := n4_
                               have NB233_243 := n5_
                               have NB243_233 := n6_
                               have HB := n7_
                               clear n0_ n1_ n2_ n3_ n4_ n5_ n6_ n7_
                               have hHeld : w64.cell? ⟨gb233, 0, none⟩ = some (.int .i64 a0_0) ∧ w64.cell? ⟨gb233, 1, none⟩ = some (.slice (some ad240) l0_1.length c0_1) ∧ w64.cell? ⟨gb233, 2, none⟩ = some (.slice A0_2 l0_2.length c0_2) ∧ w64.cell? (ad241.add ((a0_0).toNat * 11)) = some (.string ((rd_T32 l1 a0_0).f0)) ∧ w64.cell? ⟨(ad241.add ((a0_0).toNat * 11)).block, (ad241.add ((a0_0).toNat * 11)).off + 1, none⟩ = some (.bool ((rd_T32 l1 a0_0).f1)) ∧ w64.cell? ⟨(ad241.add ((a0_0).toNat * 11)).block, (ad241.add ((a0_0).toNat * 11)).off + 2, none⟩ = some (.int .i64 ((rd_T32 l1 a0_0).f2)) ∧ w64.cell? ⟨(ad241.add ((a0_0).toNat * 11)).block, (ad241.add ((a0_0).toNat * 11)).off + 3, none⟩ = some (.int .u64 ((rd_T32 l1 a0_0).f3)) ∧ w64.cell? ⟨(ad241.add ((a0_0).toNat * 11)).block, (ad241.add ((a0_0).toNat * 11)).off + 4, none⟩ = some (.int .i64 ((rd_T32 l1 a0_0).f4)) ∧ w64.cell? ⟨(ad241.add ((a0_0).toNat * 11)).block, (ad241.add ((a0_0).toNat * 11)).off + 5, none⟩ = some (.slice A241_5 ((rd_T32 l1 a0_0).f5).length c241_5) ∧ w64.cell? ⟨(ad241.add ((a0_0).toNat * 11)).block, (ad241.add ((a0_0).toNat * 11)).off + 6, none⟩ = some (.slice A241_6 ((rd_T32 l1 a0_0).f6).length c241_6) ∧ w64.cell? ⟨(ad241.add ((a0_0).toNat * 11)).block, (ad241.add ((a0_0).toNat * 11)).off + 7, none⟩ = some (.slice A241_7 ((rd_T32 l1 a0_0).f7).length c241_7) ∧ w64.cell? ⟨(ad241.add ((a0_0).toNat * 11)).block, (ad241.add ((a0_0).toNat * 11)).off + 8, none⟩ = some (.int .i64 ((rd_T32 l1 a0_0).f8)) ∧ w64.cell? ⟨(ad241.add ((a0_0).toNat * 11)).block, (ad241.add ((a0_0).toNat * 11)).off + 9, none⟩ = some (.int .i64 ((rd_T32 l1 a0_0).f9)) ∧ w64.cell? ⟨(ad241.add ((a0_0).toNat * 11)).block, (ad241.add ((a0_0).toNat * 11)).off + 10, none⟩ = some (.int .i64 ((rd_T32 l1 a0_0).f10)) := hS_
                               refine norm_ (a' := ?_) ?_ ?_
                               rotate_left
                               · simp only [putAll, Act.put, z1, z2, z3]
                                 rfl
                               refine one_ (i := 11) (N := none) (zb 12 1) rfl rfl (one_of HT_.out (by kernel_rfl)) (by decide) (fun K hK => ?_)
                               have hs65 : w64.cell? ⟨gb243, 0, none⟩ = some (.string (⟨#[]⟩ : ByteArray)) := (blk_cell BK243.out 0).trans rfl
                               have hfs65 := blk_frozen BK243.out 0
                               have hns65_0 := NB233_243.out
                               have hms65_0 := NB243_233.out
                               have hs66 : w64.cell? ⟨gb243, 1, none⟩ = some (.bool false) := (blk_cell BK243.out 1).trans rfl
                               have hfs66 := blk_frozen BK243.out 1
                               have hns66_0 := NB233_243.out
                               have hms66_0 := NB243_233.out
                               have hs67 : w64.cell? ⟨gb243, 2, none⟩ = some (.int .i64 0) := (blk_cell BK243.out 2).trans rfl
                               have hfs67 := blk_frozen BK243.out 2
                               have hns67_0 := NB233_243.out
                               have hms67_0 := NB243_233.out
                               have hs68 : w64.cell? ⟨gb243, 3, none⟩ = some (.int .u64 0) := (blk_cell BK243.out 3).trans rfl
                               have hfs68 := blk_frozen BK243.out 3
                               have hns68_0 := NB233_243.out
                               have hms68_0 := NB243_233.out
                               have hs69 : w64.cell? ⟨gb243, 4, none⟩ = some (.int .i64 0) := (blk_cell BK243.out 4).trans rfl
                               have hfs69 := blk_frozen BK243.out 4
                               have hns69_0 := NB233_243.out
                               have hms69_0 := NB243_233.out
                               have hs70 : w64.cell? ⟨gb243, 5, none⟩ = some (.slice none 0 0) := (blk_cell BK243.out 5).trans rfl
                               have hfs70 := blk_frozen BK243.out 5
                               have hns70_0 := NB233_243.out
                               have hms70_0 := NB243_233.out
                               have hs71 : w64.cell? ⟨gb243, 6, none⟩ = some (.slice none 0 0) := (blk_cell BK243.out 6).trans rfl
                               have hfs71 := blk_frozen BK243.out 6
                               have hns71_0 := NB233_243.out
                               have hms71_0 := NB243_233.out
                               have hs72 : w64.cell? ⟨gb243, 7, none⟩ = some (.slice none 0 0) := (blk_cell BK243.out 7).trans rfl
                               have hfs72 := blk_frozen BK243.out 7
                               have hns72_0 := NB233_243.out
                               have hms72_0 := NB243_233.out
                               have hs73 : w64.cell? ⟨gb243, 8, none⟩ = some (.int .i64 0) := (blk_cell BK243.out 8).trans rfl
                               have hfs73 := blk_frozen BK243.out 8
                               have hns73_0 := NB233_243.out
                               have hms73_0 := NB243_233.out
                               have hs74 : w64.cell? ⟨gb243, 9, none⟩ = some (.int .i64 0) := (blk_cell BK243.out 9).trans rfl
                               have hfs74 := blk_frozen BK243.out 9
                               have hns74_0 := NB233_243.out
                               have hms74_0 := NB243_233.out
                               have hs75 : w64.cell? ⟨gb243, 10, none⟩ = some (.int .i64 0) := (blk_cell BK243.out 10).trans rfl
                               have hfs75 := blk_frozen BK243.out 10
                               have hns75_0 := NB233_243.out
                               have hms75_0 := NB243_233.out
                               refine skip_ (w1 := ?_) (by rfl) rfl ?_ ?_
                               rotate_left; focus (go_simp; rfl)
                               refine hK.out _ _ ⟨(by (iterate 11 (refine (cell_far (p := ⟨gb243, _, none⟩) NB233_243.out _).trans ?_)); exact hHeld.1), (by (iterate 11 (refine (cell_far (p := ⟨gb243, _, none⟩) NB233_243.out _).trans ?_)); exact hHeld.2.1), (by (iterate 11 (refine (cell_far (p := ⟨gb243, _, none⟩) NB233_243.out _).trans ?_)); exact hHeld.2.2.1), (by (iterate 11 (refine (cell_far (p := ⟨gb243, _, none⟩) (by first | exact Nat.ne_of_lt (Nat.lt_of_lt_of_le (by have := World.block_lt_of_cell? _ _ hw241_0; first | rwa [add_block] at this | exact this) GW243.out) | (rw [add_block]; exact Nat.ne_of_lt (Nat.lt_of_lt_of_le (by have := World.block_lt_of_cell? _ _ hw241_0; first | rwa [add_block] at this | exact this) GW243.out)) | (show (Addr.add _ _).block ≠ _; rw [add_block]; exact Nat.ne_of_lt (Nat.lt_of_lt_of_le (by have := World.block_lt_of_cell? _ _ hw241_0; first | rwa [add_block] at this | exact this) GW243.out)) | (dsimp only; exact Nat.ne_of_lt (Nat.lt_of_lt_of_le (by have := World.block_lt_of_cell? _ _ hw241_0; first | rwa [add_block] at this | exact this) GW243.out))) _).trans ?_)); exact hHeld.2.2.2.1), (by (iterate 11 (refine (cell_far (p := ⟨gb243, _, none⟩) (by first | exact Nat.ne_of_lt (Nat.lt_of_lt_of_le (by have := World.block_lt_of_cell? _ _ hw241_1; first | rwa [add_block] at this | exact this) GW243.out) | (rw [add_block]; exact Nat.ne_of_lt (Nat.lt_of_lt_of_le (by have := World.block_lt_of_cell? _ _ hw241_1; first | rwa [add_block] at this | exact this) GW243.out)) | (show (Addr.add _ _).block ≠ _; rw [add_block]; exact Nat.ne_of_lt (Nat.lt_of_lt_of_le (by have := World.block_lt_of_cell? _ _ hw241_1; first | rwa [add_block] at this | exact this) GW243.out)) | (dsimp only; exact Nat.ne_of_lt (Nat.lt_of_lt_of_le (by have := World.block_lt_of_cell? _ _ hw241_1; first | rwa [add_block] at this | exact this) GW243.out))) _).trans ?_)); exact hHeld.2.2.2.2.1), (by (iterate 11 (refine (cell_far (p := ⟨gb243, _, none⟩) (by first | exact Nat.ne_of_lt (Nat.lt_of_lt_of_le (by have := World.block_lt_of_cell? _ _ hw241_2; first | rwa [add_block] at this | exact this) GW243.out) | (rw [add_block]; exact Nat.ne_of_lt (Nat.lt_of_lt_of_le (by have := World.block_lt_of_cell? _ _ hw241_2; first | rwa [add_block] at this | exact this) GW243.out)) | (show (Addr.add _ _).block ≠ _; rw [add_block]; exact Nat.ne_of_lt (Nat.lt_of_lt_of_le (by have := World.block_lt_of_cell? _ _ hw241_2; first | rwa [add_block] at this | exact this) GW243.out)) | (dsimp only; exact Nat.ne_of_lt (Nat.lt_of_lt_of_le (by have := World.block_lt_of_cell? _ _ hw241_2; first | rwa [add_block] at this | exact this) GW243.out))) _).trans ?_)); exact hHeld.2.2.2.2.2.1), (by (iterate 11 (refine (cell_far (p := ⟨gb243, _, none⟩) (by first | exact Nat.ne_of_lt (Nat.lt_of_lt_of_le (by have := World.block_lt_of_cell? _ _ hw241_3; first | rwa [add_block] at this | exact this) GW243.out) | (rw [add_block]; exact Nat.ne_of_lt (Nat.lt_of_lt_of_le (by have := World.block_lt_of_cell? _ _ hw241_3; first | rwa [add_block] at this | exact this) GW243.out)) | (show (Addr.add _ _).block ≠ _; rw [add_block]; exact Nat.ne_of_lt (Nat.lt_of_lt_of_le (by have := World.block_lt_of_cell? _ _ hw241_3; first | rwa [add_block] at this | exact this) GW243.out)) | (dsimp only; exact Nat.ne_of_lt (Nat.lt_of_lt_of_le (by have := World.block_lt_of_cell? _ _ hw241_3; first | rwa [add_block] at this | exact this) GW243.out))) _).trans ?_)); exact hHeld.2.2.2.2.2.2.1), (by (iterate 11 (refine (cell_far (p := ⟨gb243, _, none⟩) (by first | exact Nat.ne_of_lt (Nat.lt_of_lt_of_le (by have := World.block_lt_of_cell? _ _ hw241_4; first | rwa [add_block] at this | exact this) GW243.out) | (rw [add_block]; exact Nat.ne_of_lt (Nat.lt_of_lt_of_le (by have := World.block_lt_of_cell? _ _ hw241_4; first | rwa [add_block] at this | exact this) GW243.out)) | (show (Addr.add _ _).block ≠ _; rw [add_block]; exact Nat.ne_of_lt (Nat.lt_of_lt_of_le (by have := World.block_lt_of_cell? _ _ hw241_4; first | rwa [add_block] at this | exact this) GW243.out)) | (dsimp only; exact Nat.ne_of_lt (Nat.lt_of_lt_of_le (by have := World.block_lt_of_cell? _ _ hw241_4; first | rwa [add_block] at this | exact this) GW243.out))) _).trans ?_)); exact hHeld.2.2.2.2.2.2.2.1), (by (iterate 11 (refine (cell_far (p := ⟨gb243, _, none⟩) (by first | exact Nat.ne_of_lt (Nat.lt_of_lt_of_le (by have := World.block_lt_of_cell? _ _ hw241_5; first | rwa [add_block] at this | exact this) GW243.out) | (rw [add_block]; exact Nat.ne_of_lt (Nat.lt_of_lt_of_le (by have := World.block_lt_of_cell? _ _ hw241_5; first | rwa [add_block] at this | exact this) GW243.out)) | (show (Addr.add _ _).block ≠ _; rw [add_block]; exact Nat.ne_of_lt (Nat.lt_of_lt_of_le (by have := World.block_lt_of_cell? _ _ hw241_5; first | rwa [add_block] at this | exact this) GW243.out)) | (dsimp only; exact Nat.ne_of_lt (Nat.lt_of_lt_of_le (by have := World.block_lt_of_cell? _ _ hw241_5; first | rwa [add_block] at this | exact this) GW243.out))) _).trans ?_)); exact hHeld.2.2.2.2.2.2.2.2.1), (by (iterate 11 (refine (cell_far (p := ⟨gb243, _, none⟩) (by first | exact Nat.ne_of_lt (Nat.lt_of_lt_of_le (by have := World.block_lt_of_cell? _ _ hw241_6; first | rwa [add_block] at this | exact this) GW243.out) | (rw [add_block]; exact Nat.ne_of_lt (Nat.lt_of_lt_of_le (by have := World.block_lt_of_cell? _ _ hw241_6; first | rwa [add_block] at this | exact this) GW243.out)) | (show (Addr.add _ _).block ≠ _; rw [add_block]; exact Nat.ne_of_lt (Nat.lt_of_lt_of_le (by have := World.block_lt_of_cell? _ _ hw241_6; first | rwa [add_block] at this | exact this) GW243.out)) | (dsimp only; exact Nat.ne_of_lt (Nat.lt_of_lt_of_le (by have := World.block_lt_of_cell? _ _ hw241_6; first | rwa [add_block] at this | exact this) GW243.out))) _).trans ?_)); exact hHeld.2.2.2.2.2.2.2.2.2.1), (by (iterate 11 (refine (cell_far (p := ⟨gb243, _, none⟩) (by first | exact Nat.ne_of_lt (Nat.lt_of_lt_of_le (by have := World.block_lt_of_cell? _ _ hw241_7; first | rwa [add_block] at this | exact this) GW243.out) | (rw [add_block]; exact Nat.ne_of_lt (Nat.lt_of_lt_of_le (by have := World.block_lt_of_cell? _ _ hw241_7; first | rwa [add_block] at this | exact this) GW243.out)) | (show (Addr.add _ _).block ≠ _; rw [add_block]; exact Nat.ne_of_lt (Nat.lt_of_lt_of_le (by have := World.block_lt_of_cell? _ _ hw241_7; first | rwa [add_block] at this | exact this) GW243.out)) | (dsimp only; exact Nat.ne_of_lt (Nat.lt_of_lt_of_le (by have := World.block_lt_of_cell? _ _ hw241_7; first | rwa [add_block] at this | exact this) GW243.out))) _).trans ?_)); exact hHeld.2.2.2.2.2.2.2.2.2.2.1), (by (iterate 11 (refine (cell_far (p := ⟨gb243, _, none⟩) (by first | exact Nat.ne_of_lt (Nat.lt_of_lt_of_le (by have := World.block_lt_of_cell? _ _ hw241_8; first | rwa [add_block] at this | exact this) GW243.out) | (rw [add_block]; exact Nat.ne_of_lt (Nat.lt_of_lt_of_le (by have := World.block_lt_of_cell? _ _ hw241_8; first | rwa [add_block] at this | exact this) GW243.out)) | (show (Addr.add _ _).block ≠ _; rw [add_block]; exact Nat.ne_of_lt (Nat.lt_of_lt_of_le (by have := World.block_lt_of_cell? _ _ hw241_8; first | rwa [add_block] at this | exact this) GW243.out)) | (dsimp only; exact Nat.ne_of_lt (Nat.lt_of_lt_of_le (by have := World.block_lt_of_cell? _ _ hw241_8; first | rwa [add_block] at this | exact this) GW243.out))) _).trans ?_)); exact hHeld.2.2.2.2.2.2.2.2.2.2.2.1), (by (iterate 11 (refine (cell_far (p := ⟨gb243, _, none⟩) (by first | exact Nat.ne_of_lt (Nat.lt_of_lt_of_le (by have := World.block_lt_of_cell? _ _ hw241_9; first | rwa [add_block] at this | exact this) GW243.out) | (rw [add_block]; exact Nat.ne_of_lt (Nat.lt_of_lt_of_le (by have := World.block_lt_of_cell? _ _ hw241_9; first | rwa [add_block] at this | exact this) GW243.out)) | (show (Addr.add _ _).block ≠ _; rw [add_block]; exact Nat.ne_of_lt (Nat.lt_of_lt_of_le (by have := World.block_lt_of_cell? _ _ hw241_9; first | rwa [add_block] at this | exact this) GW243.out)) | (dsimp only; exact Nat.ne_of_lt (Nat.lt_of_lt_of_le (by have := World.block_lt_of_cell? _ _ hw241_9; first | rwa [add_block] at this | exact this) GW243.out))) _).trans ?_)); exact hHeld.2.2.2.2.2.2.2.2.2.2.2.2.1), (by (iterate 11 (refine (cell_far (p := ⟨gb243, _, none⟩) (by first | exact Nat.ne_of_lt (Nat.lt_of_lt_of_le (by have := World.block_lt_of_cell? _ _ hw241_10; first | rwa [add_block] at this | exact this) GW243.out) | (rw [add_block]; exact Nat.ne_of_lt (Nat.lt_of_lt_of_le (by have := World.block_lt_of_cell? _ _ hw241_10; first | rwa [add_block] at this | exact this) GW243.out)) | (show (Addr.add _ _).block ≠ _; rw [add_block]; exact Nat.ne_of_lt (Nat.lt_of_lt_of_le (by have := World.block_lt_of_cell? _ _ hw241_10; first | rwa [add_block] at this | exact this) GW243.out)) | (dsimp only; exact Nat.ne_of_lt (Nat.lt_of_lt_of_le (by have := World.block_lt_of_cell? _ _ hw241_10; first | rwa [add_block] at this | exact this) GW243.out))) _).trans ?_)); exact hHeld.2.2.2.2.2.2.2.2.2.2.2.2.2)⟩ (fun hHeld => ?_)
                               clear hK K
                               refine pure_ (i := 12) (N := some 15) (v := ?_) (a' := ?_) (zb 13 0) rfl rfl (any_of HT_.out (by kernel_rfl)) (fun _ _ _ h => h) (Or.inl ⟨by rfl, ?_⟩) ?_ ?_
                               rotate_left; focus (intro w'; go_simp; with_reducible rfl)
                               rotate_left; focus (simp only [Act.put, z1, z2, z3, i64_w, i32_w]; rfl)
                               refine done_ (done_of HT_.out (by kernel_rfl)) ?_
                               try go_wp2
                               have n0_ : Aside0 (Kd.R k45 45 (((((((((((w64.setCell ⟨gb243, 0, none⟩ (.string ((rd_T32 l1 a0_0).f0))).setCell ⟨gb243, 1, none⟩ (.bool ((rd_T32 l1 a0_0).f1))).setCell ⟨gb243, 2, none⟩ (.int .i64 ((rd_T32 l1 a0_0).f2))).setCell ⟨gb243, 3, none⟩ (.int .u64 ((rd_T32 l1 a0_0).f3))).setCell ⟨gb243, 4, none⟩ (.int .i64 ((rd_T32 l1 a0_0).f4))).setCell ⟨gb243, 5, none⟩ (.slice A241_5 ((rd_T32 l1 a0_0).f5).length c241_5)).setCell ⟨gb243, 6, none⟩ (.slice A241_6 ((rd_T32 l1 a0_0).f6).length c241_6)).setCell ⟨gb243, 7, none⟩ (.slice A241_7 ((rd_T32 l1 a0_0).f7).length c241_7)).setCell ⟨gb243, 8, none⟩ (.int .i64 ((rd_T32 l1 a0_0).f8))).setCell ⟨gb243, 9, none⟩ (.int .i64 ((rd_T32 l1 a0_0).f9))).setCell ⟨gb243, 10, none⟩ (.int .i64 ((rd_T32 l1 a0_0).f10))) w.heap.size (fun _ => True) v238 x11_2) := ⟨by (with_reducible repeat (first | apply Kd.R_alloc | apply Kd.R_drewN | apply Kd.R_drew)); exact Kd.R_mono (Kd.R_far (p := ⟨gb243, 10, none⟩) (Kd.R_far (p := ⟨gb243, 9, none⟩) (Kd.R_far (p := ⟨gb243, 8, none⟩) (Kd.R_far (p := ⟨gb243, 7, none⟩) (Kd.R_far (p := ⟨gb243, 6, none⟩) (Kd.R_far (p := ⟨gb243, 5, none⟩) (Kd.R_far (p := ⟨gb243, 4, none⟩) (Kd.R_far (p := ⟨gb243, 3, none⟩) (Kd.R_far (p := ⟨gb243, 2, none⟩) (Kd.R_far (p := ⟨gb243, 1, none⟩) (Kd.R_far (p := ⟨gb243, 0, none⟩) (Kd.R_types HO_11.out BK243.out (by decide)) (fun _ hk => hk.2) (.string ((rd_T32 l1 a0_0).f0))) (fun _ hk => hk.2) (.bool ((rd_T32 l1 a0_0).f1))) (fun _ hk => hk.2) (.int .i64 ((rd_T32 l1 a0_0).f2))) (fun _ hk => hk.2) (.int .u64 ((rd_T32 l1 a0_0).f3))) (fun _ hk => hk.2) (.int .i64 ((rd_T32 l1 a0_0).f4))) (fun _ hk => hk.2) (.slice A241_5 ((rd_T32 l1 a0_0).f5).length c241_5)) (fun _ hk => hk.2) (.slice A241_6 ((rd_T32 l1 a0_0).f6).length c241_6)) (fun _ hk => hk.2) (.slice A241_7 ((rd_T32 l1 a0_0).f7).length c241_7)) (fun _ hk => hk.2) (.int .i64 ((rd_T32 l1 a0_0).f8))) (fun _ hk => hk.2) (.int .i64 ((rd_T32 l1 a0_0).f9))) (fun _ hk => hk.2) (.int .i64 ((rd_T32 l1 a0_0).f10))) (fun _ hk => trivial)⟩
                               have n1_ : Aside0 ((((((((((((w64.setCell ⟨gb243, 0, none⟩ (.string ((rd_T32 l1 a0_0).f0))).setCell ⟨gb243, 1, none⟩ (.bool ((rd_T32 l1 a0_0).f1))).setCell ⟨gb243, 2, none⟩ (.int .i64 ((rd_T32 l1 a0_0).f2))).setCell ⟨gb243, 3, none⟩ (.int .u64 ((rd_T32 l1 a0_0).f3))).setCell ⟨gb243, 4, none⟩ (.int .i64 ((rd_T32 l1 a0_0).f4))).setCell ⟨gb243, 5, none⟩ (.slice A241_5 ((rd_T32 l1 a0_0).f5).length c241_5)).setCell ⟨gb243, 6, none⟩ (.slice A241_6 ((rd_T32 l1 a0_0).f6).length c241_6)).setCell ⟨gb243, 7, none⟩ (.slice A241_7 ((rd_T32 l1 a0_0).f7).length c241_7)).setCell ⟨gb243, 8, none⟩ (.int .i64 ((rd_T32 l1 a0_0).f8))).setCell ⟨gb243, 9, none⟩ (.int .i64 ((rd_T32 l1 a0_0).f9))).setCell ⟨gb243, 10, none⟩ (.int .i64 ((rd_T32 l1 a0_0).f10))).heap[gb233]? = some (.cells #[.int .i64 a0_0, .slice (some ad240) l0_1.length c0_1, .slice A0_2 l0_2.length c0_2] 24 (0, 0))) := ⟨by (with_reducible repeat (first | refine blk_drewN ?_ _ | refine blk_drew ?_ | refine blk_alloc ?_ _)); refine blk_far ?_ NB233_243.out _; (with_reducible repeat (first | refine blk_drewN ?_ _ | refine blk_drew ?_ | refine blk_alloc ?_ _)); refine blk_far ?_ NB233_243.out _; (with_reducible repeat (first | refine blk_drewN ?_ _ | refine blk_drew ?_ | refine blk_alloc ?_ _)); refine blk_far ?_ NB233_243.out _; (with_reducible repeat (first | refine blk_drewN ?_ _ | refine blk_drew ?_ | refine blk_alloc ?_ _)); refine blk_far ?_ NB233_243.out _; (with_reducible repeat (first | refine blk_drewN ?_ _ | refine blk_drew ?_ | refine blk_alloc ?_ _)); refine blk_far ?_ NB233_243.out _; (with_reducible repeat (first | refine blk_drewN ?_ _ | refine blk_drew ?_ | refine blk_alloc ?_ _)); refine blk_far ?_ NB233_243.out _; (with_reducible repeat (first | refine blk_drewN ?_ _ | refine blk_drew ?_ | refine blk_alloc ?_ _)); refine blk_far ?_ NB233_243.out _; (with_reducible repeat (first | refine blk_drewN ?_ _ | refine blk_drew ?_ | refine blk_alloc ?_ _)); refine blk_far ?_ NB233_243.out _; (with_reducible repeat (first | refine blk_drewN ?_ _ | refine blk_drew ?_ | refine blk_alloc ?_ _)); refine blk_far ?_ NB233_243.out _; (with_reducible repeat (first | refine blk_drewN ?_ _ | refine blk_drew ?_ | refine blk_alloc ?_ _)); refine blk_far ?_ NB233_243.out _; (with_reducible repeat (first | refine blk_drewN ?_ _ | refine blk_drew ?_ | refine blk_alloc ?_ _)); refine blk_far ?_ NB233_243.out _; (with_reducible repeat (first | refine blk_drewN ?_ _ | refine blk_drew ?_ | refine blk_alloc ?_ _)); exact BK233.out⟩
                               have n2_ : Aside0 ((((((((((((w64.setCell ⟨gb243, 0, none⟩ (.string ((rd_T32 l1 a0_0).f0))).setCell ⟨gb243, 1, none⟩ (.bool ((rd_T32 l1 a0_0).f1))).setCell ⟨gb243, 2, none⟩ (.int .i64 ((rd_T32 l1 a0_0).f2))).setCell ⟨gb243, 3, none⟩ (.int .u64 ((rd_T32 l1 a0_0).f3))).setCell ⟨gb243, 4, none⟩ (.int .i64 ((rd_T32 l1 a0_0).f4))).setCell ⟨gb243, 5, none⟩ (.slice A241_5 ((rd_T32 l1 a0_0).f5).length c241_5)).setCell ⟨gb243, 6, none⟩ (.slice A241_6 ((rd_T32 l1 a0_0).f6).length c241_6)).setCell ⟨gb243, 7, none⟩ (.slice A241_7 ((rd_T32 l1 a0_0).f7).length c241_7)).setCell ⟨gb243, 8, none⟩ (.int .i64 ((rd_T32 l1 a0_0).f8))).setCell ⟨gb243, 9, none⟩ (.int .i64 ((rd_T32 l1 a0_0).f9))).setCell ⟨gb243, 10, none⟩ (.int .i64 ((rd_T32 l1 a0_0).f10))).heap[gb243]? = some (.cells #[.string ((rd_T32 l1 a0_0).f0), .bool ((rd_T32 l1 a0_0).f1), .int .i64 ((rd_T32 l1 a0_0).f2), .int .u64 ((rd_T32 l1 a0_0).f3), .int .i64 ((rd_T32 l1 a0_0).f4), .slice A241_5 ((rd_T32 l1 a0_0).f5).length c241_5, .slice A241_6 ((rd_T32 l1 a0_0).f6).length c241_6, .slice A241_7 ((rd_T32 l1 a0_0).f7).length c241_7, .int .i64 ((rd_T32 l1 a0_0).f8), .int .i64 ((rd_T32 l1 a0_0).f9), .int .i64 ((rd_T32 l1 a0_0).f10)] 32 (0, 0))) := ⟨by (with_reducible repeat (first | refine blk_drewN ?_ _ | refine blk_drew ?_ | refine blk_alloc ?_ _)); refine blk_put (cs := #[.string ((rd_T32 l1 a0_0).f0), .bool ((rd_T32 l1 a0_0).f1), .int .i64 ((rd_T32 l1 a0_0).f2), .int .u64 ((rd_T32 l1 a0_0).f3), .int .i64 ((rd_T32 l1 a0_0).f4), .slice A241_5 ((rd_T32 l1 a0_0).f5).length c241_5, .slice A241_6 ((rd_T32 l1 a0_0).f6).length c241_6, .slice A241_7 ((rd_T32 l1 a0_0).f7).length c241_7, .int .i64 ((rd_T32 l1 a0_0).f8), .int .i64 ((rd_T32 l1 a0_0).f9), .int .i64 0]) ?_ 10 _ rfl; (with_reducible repeat (first | refine blk_drewN ?_ _ | refine blk_drew ?_ | refine blk_alloc ?_ _)); refine blk_put (cs := #[.string ((rd_T32 l1 a0_0).f0), .bool ((rd_T32 l1 a0_0).f1), .int .i64 ((rd_T32 l1 a0_0).f2), .int .u64 ((rd_T32 l1 a0_0).f3), .int .i64 ((rd_T32 l1 a0_0).f4), .slice A241_5 ((rd_T32 l1 a0_0).f5).length c241_5, .slice A241_6 ((rd_T32 l1 a0_0).f6).length c241_6, .slice A241_7 ((rd_T32 l1 a0_0).f7).length c241_7, .int .i64 ((rd_T32 l1 a0_0).f8), .int .i64 0, .int .i64 0]) ?_ 9 _ rfl; (with_reducible repeat (first | refine blk_drewN ?_ _ | refine blk_drew ?_ | refine blk_alloc ?_ _)); refine blk_put (cs := #[.string ((rd_T32 l1 a0_0).f0), .bool ((rd_T32 l1 a0_0).f1), .int .i64 ((rd_T32 l1 a0_0).f2), .int .u64 ((rd_T32 l1 a0_0).f3), .int .i64 ((rd_T32 l1 a0_0).f4), .slice A241_5 ((rd_T32 l1 a0_0).f5).length c241_5, .slice A241_6 ((rd_T32 l1 a0_0).f6).length c241_6, .slice A241_7 ((rd_T32 l1 a0_0).f7).length c241_7, .int .i64 0, .int .i64 0, .int .i64 0]) ?_ 8 _ rfl; (with_reducible repeat (first | refine blk_drewN ?_ _ | refine blk_drew ?_ | refine blk_alloc ?_ _)); refine blk_put (cs := #[.string ((rd_T32 l1 a0_0).f0), .bool ((rd_T32 l1 a0_0).f1), .int .i64 ((rd_T32 l1 a0_0).f2), .int .u64 ((rd_T32 l1 a0_0).f3), .int .i64 ((rd_T32 l1 a0_0).f4), .slice A241_5 ((rd_T32 l1 a0_0).f5).length c241_5, .slice A241_6 ((rd_T32 l1 a0_0).f6).length c241_6, .slice none 0 0, .int .i64 0, .int .i64 0, .int .i64 0]) ?_ 7 _ rfl; (with_reducible repeat (first | refine blk_drewN ?_ _ | refine blk_drew ?_ | refine blk_alloc ?_ _)); refine blk_put (cs := #[.string ((rd_T32 l1 a0_0).f0), .bool ((rd_T32 l1 a0_0).f1), .int .i64 ((rd_T32 l1 a0_0).f2), .int .u64 ((rd_T32 l1 a0_0).f3), .int .i64 ((rd_T32 l1 a0_0).f4), .slice A241_5 ((rd_T32 l1 a0_0).f5).length c241_5, .slice none 0 0, .slice none 0 0, .int .i64 0, .int .i64 0, .int .i64 0]) ?_ 6 _ rfl; (with_reducible repeat (first | refine blk_drewN ?_ _ | refine blk_drew ?_ | refine blk_alloc ?_ _)); refine blk_put (cs := #[.string ((rd_T32 l1 a0_0).f0), .bool ((rd_T32 l1 a0_0).f1), .int .i64 ((rd_T32 l1 a0_0).f2), .int .u64 ((rd_T32 l1 a0_0).f3), .int .i64 ((rd_T32 l1 a0_0).f4), .slice none 0 0, .slice none 0 0, .slice none 0 0, .int .i64 0, .int .i64 0, .int .i64 0]) ?_ 5 _ rfl; (with_reducible repeat (first | refine blk_drewN ?_ _ | refine blk_drew ?_ | refine blk_alloc ?_ _)); refine blk_put (cs := #[.string ((rd_T32 l1 a0_0).f0), .bool ((rd_T32 l1 a0_0).f1), .int .i64 ((rd_T32 l1 a0_0).f2), .int .u64 ((rd_T32 l1 a0_0).f3), .int .i64 0, .slice none 0 0, .slice none 0 0, .slice none 0 0, .int .i64 0, .int .i64 0, .int .i64 0]) ?_ 4 _ rfl; (with_reducible repeat (first | refine blk_drewN ?_ _ | refine blk_drew ?_ | refine blk_alloc ?_ _)); refine blk_put (cs := #[.string ((rd_T32 l1 a0_0).f0), .bool ((rd_T32 l1 a0_0).f1), .int .i64 ((rd_T32 l1 a0_0).f2), .int .u64 0, .int .i64 0, .slice none 0 0, .slice none 0 0, .slice none 0 0, .int .i64 0, .int .i64 0, .int .i64 0]) ?_ 3 _ rfl; (with_reducible repeat (first | refine blk_drewN ?_ _ | refine blk_drew ?_ | refine blk_alloc ?_ _)); refine blk_put (cs := #[.string ((rd_T32 l1 a0_0).f0), .bool ((rd_T32 l1 a0_0).f1), .int .i64 0, .int .u64 0, .int .i64 0, .slice none 0 0, .slice none 0 0, .slice none 0 0, .int .i64 0, .int .i64 0, .int .i64 0]) ?_ 2 _ rfl; (with_reducible repeat (first | refine blk_drewN ?_ _ | refine blk_drew ?_ | refine blk_alloc ?_ _)); refine blk_put (cs := #[.string ((rd_T32 l1 a0_0).f0), .bool false, .int .i64 0, .int .u64 0, .int .i64 0, .slice none 0 0, .slice none 0 0, .slice none 0 0, .int .i64 0, .int .i64 0, .int .i64 0]) ?_ 1 _ rfl; (with_reducible repeat (first | refine blk_drewN ?_ _ | refine blk_drew ?_ | refine blk_alloc ?_ _)); refine blk_put (cs := #[.string (⟨#[]⟩ : ByteArray), .bool false, .int .i64 0, .int .u64 0, .int .i64 0, .slice none 0 0, .slice none 0 0, .slice none 0 0, .int .i64 0, .int .i64 0, .int .i64 0]) ?_ 0 _ rfl; (with_reducible repeat (first | refine blk_drewN ?_ _ | refine blk_drew ?_ | refine blk_alloc ?_ _)); exact BK243.out⟩
                               have n3_ : Aside0 (Below w.heap.size w (((((((((((w64.setCell ⟨gb243, 0, none⟩ (.string ((rd_T32 l1 a0_0).f0))).setCell ⟨gb243, 1, none⟩ (.bool ((rd_T32 l1 a0_0).f1))).setCell ⟨gb243, 2, none⟩ (.int .i64 ((rd_T32 l1 a0_0).f2))).setCell ⟨gb243, 3, none⟩ (.int .u64 ((rd_T32 l1 a0_0).f3))).setCell ⟨gb243, 4, none⟩ (.int .i64 ((rd_T32 l1 a0_0).f4))).setCell ⟨gb243, 5, none⟩ (.slice A241_5 ((rd_T32 l1 a0_0).f5).length c241_5)).setCell ⟨gb243, 6, none⟩ (.slice A241_6 ((rd_T32 l1 a0_0).f6).length c241_6)).setCell ⟨gb243, 7, none⟩ (.slice A241_7 ((rd_T32 l1 a0_0).f7).length c241_7)).setCell ⟨gb243, 8, none⟩ (.int .i64 ((rd_T32 l1 a0_0).f8))).setCell ⟨gb243, 9, none⟩ (.int .i64 ((rd_T32 l1 a0_0).f9))).setCell ⟨gb243, 10, none⟩ (.int .i64 ((rd_T32 l1 a0_0).f10)))) := ⟨by repeat (first | (with_reducible first | exact HB.out | apply below_alloc | apply pw_below_drewN | apply below_drew1 | refine below_set ?_ GE233.out | refine below_set ?_ GE243.out) | exact HB.out)⟩
                               (try clear HO_11)
                               (try clear BK233)
                               (try clear BK243)
                               (try clear HB)
                               generalize (((((((((((w64.setCell ⟨gb243, 0, none⟩ (.string ((rd_T32 l1 a0_0).f0))).setCell ⟨gb243, 1, none⟩ (.bool ((rd_T32 l1 a0_0).f1))).setCell ⟨gb243, 2, none⟩ (.int .i64 ((rd_T32 l1 a0_0).f2))).setCell ⟨gb243, 3, none⟩ (.int .u64 ((rd_T32 l1 a0_0).f3))).setCell ⟨gb243, 4, none⟩ (.int .i64 ((rd_T32 l1 a0_0).f4))).setCell ⟨gb243, 5, none⟩ (.slice A241_5 ((rd_T32 l1 a0_0).f5).length c241_5)).setCell ⟨gb243, 6, none⟩ (.slice A241_6 ((rd_T32 l1 a0_0).f6).length c241_6)).setCell ⟨gb243, 7, none⟩ (.slice A241_7 ((rd_T32 l1 a0_0).f7).length c241_7)).setCell ⟨gb243, 8, none⟩ (.int .i64 ((rd_T32 l1 a0_0).f8))).setCell ⟨gb243, 9, none⟩ (.int .i64 ((rd_T32 l1 a0_0).f9))).setCell ⟨gb243, 10, none⟩ (.int .i64 ((rd_T32 l1 a0_0).f10))) = w76 at n0_ n1_ n2_ n3_ ⊢
                               have HO_11 := n0_
                               have BK233 := n1_
                               have BK243 := n2_
                               have HB := n3_
                               clear n0_ n1_ n2_ n3_
                               have n0_ := Aside0.mk (Kd.R_drew HO_11.out)
                               have n1_ := Aside0.mk (blk_drew BK233.out)
                               have n2_ := Aside0.mk (blk_drew BK243.out)
                               have n3_ := Aside0.mk (below_drew1 HB.out)
                               clear HO_11
                               clear BK233
                               clear BK243
                               clear HB
                               have HO_11 := n0_
                               have BK233 := n1_
                               have BK243 := n2_
                               have HB := n3_
                               clear n0_ n1_ n2_ n3_
                               have p244 : 0 ≤ (0 : Int) := (by omega)
                               have q244 : 0 < (((rd_T32 l1 a0_0).f6).length : Int) := of_decide_eq_true (by first | (with_reducible assumption) | assumption)
                               obtain ⟨ad244, e244, hx244_0⟩ := Kd.at_int HR241_6.out 0 p244 q244
                               have hw244_0 := hx244_0
                               (try rw [show ((0 : Int)).toNat = 0 from rfl] at hw244_0)
                               (try rw [show 0 * 1 = 0 from rfl] at hw244_0)
                               (try rw [Addr.add_zero'] at hw244_0)
                               cases e244
                               have qi244 : (0 < ((rd_T32 l1 a0_0).f6).length) = True := eq_true (by omega)
                               (try rw [show ((0 : Int)).toNat = 0 from rfl] at hx244_0)
                               (try rw [Addr.add_zero'] at hx244_0)
                               replace hx244_0 := (HB.out.cell (World.block_lt_of_cell? w _ hx244_0)).trans hx244_0
                               replace p244 := eq_true p244
                               replace q244 := eq_true q244
                               have p245 : 0 ≤ (0 : Int) := (by omega)
                               have q245 : 0 < (((rd_T32 l1 a0_0).f7).length : Int) := of_decide_eq_true (by first | (with_reducible assumption) | assumption)
                               obtain ⟨ad245, e245, hx245_0⟩ := Kd.at_int HR241_7.out 0 p245 q245
                               have hw245_0 := hx245_0
                               (try rw [show ((0 : Int)).toNat = 0 from rfl] at hw245_0)
                               (try rw [show 0 * 1 = 0 from rfl] at hw245_0)
                               (try rw [Addr.add_zero'] at hw245_0)
                               cases e245
                               have qi245 : (0 < ((rd_T32 l1 a0_0).f7).length) = True := eq_true (by omega)
                               (try rw [show ((0 : Int)).toNat = 0 from rfl] at hx245_0)
                               (try rw [Addr.add_zero'] at hx245_0)
                               replace hx245_0 := (HB.out.cell (World.block_lt_of_cell? w _ hx245_0)).trans hx245_0
                               replace p245 := eq_true p245
                               replace q245 := eq_true q245
                               have p33 : 0 ≤ (x57_2 : Int) := of_decide_eq_true (by first | (with_reducible assumption) | assumption)
                               have q33 : (x57_2 : Int) < ((x11_2.length : Int) : Int) := of_decide_eq_true (by first | (with_reducible assumption) | assumption)
                               obtain ⟨go33, co33, eo33, gb33, gl33, cl33, HG33⟩ := Kd.R_form HO_11.out (by omega)
                               (first | cases eo33 | (injection eo33 with ea_ en_ ec_; (first | subst ea_ | (injection ea_ with ea_; subst ea_)); subst ec_; clear en_))
                               have GB33 := Aside0.mk gb33
                               have GG33 := Aside0.mk HG33
                               clear gb33 gl33 HG33
                               obtain ⟨ce33, hcl33, hM33, hcc33, hfr33⟩ := Kd.R_elem HO_11.out z45 (x57_2 : Int) p33 q33
                               obtain rfl := k45_openM hM33
                               have hx33_0 : World.cell? _ ⟨go33, (x57_2 : Int).toNat * 2, none⟩ = some (.int .i64 ((rd_T45 x11_2 x57_2).f0)) := hcc33 0 _ rfl
                               have hx33_1 : World.cell? _ ⟨go33, (x57_2 : Int).toNat * 2 + 1, none⟩ = some (.int .i64 ((rd_T45 x11_2 x57_2).f1)) := hcc33 1 _ rfl
                               have hf33_0 : World.frozen? _ ⟨go33, (x57_2 : Int).toNat * 2, none⟩ = false := hfr33 0
                               have hf33_1 : World.frozen? _ ⟨go33, (x57_2 : Int).toNat * 2 + 1, none⟩ = false := hfr33 1
                               clear hcl33 hcc33 hfr33 hM33
                               replace p33 := eq_true p33
                               replace q33 := eq_true q33
                               obtain ⟨ce78, hcl78, hM78, hcc78, hfr78⟩ := Kd.R_elem HO_11.out z45 (x57_2 : Int) (of_decide_eq_true (by first | (with_reducible assumption) | assumption)) (by have h_ : (x57_2 : Int) < ((x11_2.length : Int) : Int) := of_decide_eq_true (by first | (with_reducible assumption) | assumption); first | exact h_ | (have e_ := (Kd.R_reads' HO_11.out).1; omega) | simpa using h_)
                               obtain rfl := k45_openM hM78
                               have HP78 := (Kd.R_seg HO_11.out (x57_2 : Int) (of_decide_eq_true (by first | (with_reducible assumption) | assumption)) (by have h_ : (x57_2 : Int) < ((x11_2.length : Int) : Int) := of_decide_eq_true (by first | (with_reducible assumption) | assumption); first | exact h_ | (have e_ := (Kd.R_reads' HO_11.out).1; omega) | simpa using h_) (seg := [.int .i64 (wrap64 ((rd ((rd_T32 l1 a0_0).f6) 0) + (wrap64 (((rd_T32 l1 a0_0).f8) * t242)))), .int .i64 (wrap64 ((rd ((rd_T32 l1 a0_0).f7) 0) + (wrap64 (((rd_T32 l1 a0_0).f8) * t242))))]) (j := 0) hcl78 hcc78 (show 2 ≤ 2 from by decide) (x' := (⟨wrap64 ((rd ((rd_T32 l1 a0_0).f6) 0) + (wrap64 (((rd_T32 l1 a0_0).f8) * t242))), wrap64 ((rd ((rd_T32 l1 a0_0).f7) 0) + (wrap64 (((rd_T32 l1 a0_0).f8) * t242)))⟩ : S45)) (k45_mkM _ _ _ (⟨wrap64 ((rd ((rd_T32 l1 a0_0).f6) 0) + (wrap64 (((rd_T32 l1 a0_0).f8) * t242))), wrap64 ((rd ((rd_T32 l1 a0_0).f7) 0) + (wrap64 (((rd_T32 l1 a0_0).f8) * t242)))⟩ : S45) ) (fun _ hk => hk)).1
                               rw [← Ny246.out] at HP78
                               have HQ78 := Aside0.mk HP78
                               clear hcl78 hcc78 hfr78 hM78 HP78
                               refine start_ (n := 23) (S := fun w' => w'.cell? ⟨gb243, 0, none⟩ = some (.string ((rd_T32 l1 a0_0).f0)) ∧ w'.cell? ⟨gb243, 1, none⟩ = some (.bool ((rd_T32 l1 a0_0).f1)) ∧ w'.cell? ⟨gb243, 2, none⟩ = some (.int .i64 ((rd_T32 l1 a0_0).f2)) ∧ w'.cell? ⟨gb243, 3, none⟩ = some (.int .u64 ((rd_T32 l1 a0_0).f3)) ∧ w'.cell? ⟨gb243, 4, none⟩ = some (.int .i64 ((rd_T32 l1 a0_0).f4)) ∧ w'.cell? ⟨gb243, 5, none⟩ = some (.slice A241_5 ((rd_T32 l1 a0_0).f5).length c241_5) ∧ w'.cell? ⟨gb243, 6, none⟩ = some (.slice (some ad244) ((rd_T32 l1 a0_0).f6).length c241_6) ∧ w'.cell? ⟨gb243, 7, none⟩ = some (.slice (some ad245) ((rd_T32 l1 a0_0).f7).length c241_7) ∧ w'.cell? ⟨gb243, 8, none⟩ = some (.int .i64 ((rd_T32 l1 a0_0).f8)) ∧ w'.cell? ⟨gb243, 9, none⟩ = some (.int .i64 ((rd_T32 l1 a0_0).f9)) ∧ w'.cell? ⟨gb243, 10, none⟩ = some (.int .i64 ((rd_T32 l1 a0_0).f10)) ∧ w'.cell? ad244 = some (.int .i64 (rd ((rd_T32 l1 a0_0).f6) 0)) ∧ w'.cell? ad245 = some (.int .i64 (rd ((rd_T32 l1 a0_0).f7) 0))) (ds := [22]) (zb 0 23) (by kernel_rfl) rfl rfl ⟨(blk_cell BK243.out 0).trans rfl, (blk_cell BK243.out 1).trans rfl, (blk_cell BK243.out 2).trans rfl, (blk_cell BK243.out 3).trans rfl, (blk_cell BK243.out 4).trans rfl, (blk_cell BK243.out 5).trans rfl, (blk_cell BK243.out 6).trans rfl, (blk_cell BK243.out 7).trans rfl, (blk_cell BK243.out 8).trans rfl, (blk_cell BK243.out 9).trans rfl, (blk_cell BK243.out 10).trans rfl, ((HB.out.cell (World.block_lt_of_cell? w _ hw244_0)).trans hw244_0), ((HB.out.cell (World.block_lt_of_cell? w _ hw245_0)).trans hw245_0)⟩ (fun hHeld => ?_); refine with_tabW tree_Arrivals.tab15 tree_Arrivals.bits15 (fun HT_ HW_ => ?_)
                               generalize w76.drew = w77 at HO_11 BK233 BK243 HB GG33 HQ78 hf33_0 hf33_1 hx244_0 hx245_0 hx33_0 hx33_1 hHeld ⊢
                               refine pure_ (i := 0) (N := some 72) (v := ?_) (a' := ?_) (zb 1 22) rfl rfl (any_of HT_.out (by kernel_rfl)) (fun _ _ _ h => h) (Or.inl ⟨by rfl, ?_⟩) ?_ ?_
                               rotate_left; focus (intro w'; go_simp; with_reducible rfl)
                               rotate_left; focus (simp only [Act.put, z1, z2, z3, i64_w, i32_w]; rfl)
                               refine pure_ (i := 1) (N := some 73) (v := ?_) (a' := ?_) (zb 2 21) rfl rfl (any_of HT_.out (by kernel_rfl)) (fun _ _ _ h => h) (Or.inl ⟨by rfl, ?_⟩) ?_ ?_
                               rotate_left; focus (intro w'; go_simp; with_reducible rfl)
                               rotate_left; focus (simp only [Act.put, z1, z2, z3, i64_w, i32_w]; rfl)
                               refine pure_ (i := 2) (N := some 74) (v := ?_) (a' := ?_) (zb 3 20) rfl rfl (any_of HT_.out (by kernel_rfl)) (fun _ _ _ h => h) (Or.inl ⟨by rfl, ?_⟩) ?_ ?_
                               rotate_left; focus (intro w'; go_simp; with_reducible rfl)
                               rotate_left; focus (simp only [Act.put, z1, z2, z3, i64_w, i32_w]; rfl)
                               refine pure_ (i := 6) (N := some 78) (v := ?_) (a' := ?_) #[true,true,true,false,false,false,true,false,false,false,false,false,false,false,false,false,false,false,false,false,false,false,false] rfl rfl (any_of HT_.out (by kernel_rfl)) (fun _ _ _ h => h) (Or.inl ⟨by rfl, ?_⟩) ?_ ?_
                               rotate_left; focus (intro w'; go_simp; with_reducible rfl)
                               rotate_left; focus (simp only [Act.put, z1, z2, z3, i64_w, i32_w]; rfl)
                               refine pure_ (i := 8) (N := some 80) (v := ?_) (a' := ?_) #[true,true,true,false,false,false,true,false,true,false,false,false,false,false,false,false,false,false,false,false,false,false,false] rfl rfl (any_of HT_.out (by kernel_rfl)) (fun _ _ _ h => h) (Or.inl ⟨by rfl, ?_⟩) ?_ ?_
                               rotate_left; focus (intro w'; go_simp; with_reducible rfl)
                               rotate_left; focus (simp only [Act.put, z1, z2, z3, i64_w, i32_w]; rfl)
                               refine pure_ (i := 11) (N := some 83) (v := ?_) (a' := ?_) #[true,true,true,false,false,false,true,false,true,false,false,true,false,false,false,false,false,false,false,false,false,false,false] rfl rfl (any_of HT_.out (by kernel_rfl)) (fun _ _ _ h => h) (Or.inl ⟨by rfl, ?_⟩) ?_ ?_
                               rotate_left; focus (intro w'; go_simp; with_reducible rfl)
                               rotate_left; focus (simp only [Act.put, z1, z2, z3, i64_w, i32_w]; rfl)
                               refine pure_ (i := 15) (N := some 87) (v := ?_) (a' := ?_) #[true,true,true,false,false,false,true,false,true,false,false,true,false,false,false,true,false,false,false,false,false,false,false] rfl rfl (any_of HT_.out (by kernel_rfl)) (fun _ _ _ h => h) (Or.inl ⟨by rfl, ?_⟩) ?_ ?_
                               rotate_left; focus (intro w'; go_simp; with_reducible rfl)
                               rotate_left; focus (simp only [Act.put, z1, z2, z3, i64_w, i32_w]; rfl)
                               refine pure_ (i := 17) (N := some 89) (v := ?_) (a' := ?_) #[true,true,true,false,false,false,true,false,true,false,false,true,false,false,false,true,false,true,false,false,false,false,false] rfl rfl (any_of HT_.out (by kernel_rfl)) (fun _ _ _ h => h) (Or.inl ⟨by rfl, ?_⟩) ?_ ?_
                               rotate_left; focus (intro w'; go_simp; with_reducible rfl)
                               rotate_left; focus (simp only [Act.put, z1, z2, z3, i64_w, i32_w]; rfl)
                               refine take_ (i := 3) (N := some 75) (v := ?_) (a' := ?_) #[true,true,true,true,false,false,true,false,true,false,false,true,false,false,false,true,false,true,false,false,false,false,false] rfl rfl (take_ofW HT_.out HW_.out (by kernel_rfl)) (fun _ _ _ h => h) (Or.inl ⟨by rfl, ?_⟩) hHeld ?_ ?_
                               rotate_left
                               · rintro w' ⟨s0, s1, s2, s3, s4, s5, s6, s7, s8, s9, s10, s11, s12⟩
                                 go_simp
                                 with_reducible rfl
                               rotate_left; focus (simp only [Act.put, z1, z2, z3, i64_w, i32_w]; rfl)
                               refine pure_ (i := 4) (N := some 76) (v := ?_) (a' := ?_) #[true,true,true,true,true,false,true,false,true,false,false,true,false,false,false,true,false,true,false,false,false,false,false] rfl rfl (any_of HT_.out (by kernel_rfl)) (fun _ _ _ h => h) (Or.inl ⟨by rfl, ?_⟩) ?_ ?_
                               rotate_left; focus (intro w'; go_simp; with_reducible rfl)
                               rotate_left; focus (simp only [Act.put, z1, z2, z3, i64_w, i32_w]; rfl)
                               refine take_ (i := 5) (N := some 77) (v := ?_) (a' := ?_) #[true,true,true,true,true,true,true,false,true,false,false,true,false,false,false,true,false,true,false,false,false,false,false] rfl rfl (take_ofW HT_.out HW_.out (by kernel_rfl)) (fun _ _ _ h => h) (Or.inl ⟨by rfl, ?_⟩) hHeld ?_ ?_
                               rotate_left
                               · rintro w' ⟨s0, s1, s2, s3, s4, s5, s6, s7, s8, s9, s10, s11, s12⟩
                                 go_simp
                                 with_reducible rfl
                               rotate_left; focus (simp only [Act.put, z1, z2, z3, i64_w, i32_w]; rfl)
                               refine take_ (i := 7) (N := some 79) (v := ?_) (a' := ?_) #[true,true,true,true,true,true,true,true,true,false,false,true,false,false,false,true,false,true,false,false,false,false,false] rfl rfl (take_ofW HT_.out HW_.out (by kernel_rfl)) (fun _ _ _ h => h) (Or.inl ⟨by rfl, ?_⟩) hHeld ?_ ?_
                               rotate_left
                               · rintro w' ⟨s0, s1, s2, s3, s4, s5, s6, s7, s8, s9, s10, s11, s12⟩
                                 go_simp
                                 with_reducible rfl
                               rotate_left; focus (simp only [Act.put, z1, z2, z3, i64_w, i32_w]; rfl)
                               refine pure_ (i := 9) (N := some 81) (v := ?_) (a' := ?_) #[true,true,true,true,true,true,true,true,true,true,false,true,false,false,false,true,false,true,false,false,false,false,false] rfl rfl (any_of HT_.out (by kernel_rfl)) (fun _ _ _ h => h) (Or.inl ⟨by rfl, ?_⟩) ?_ ?_
                               rotate_left; focus (intro w'; go_simp; with_reducible rfl)
                               rotate_left; focus (simp only [Act.put, z1, z2, z3, i64_w, i32_w]; rfl)
                               refine pure_ (i := 10) (N := some 82) (v := ?_) (a' := ?_) #[true,true,true,true,true,true,true,true,true,true,true,true,false,false,false,true,false,true,false,false,false,false,false] rfl rfl (any_of HT_.out (by kernel_rfl)) (fun _ _ _ h => h) (Or.inl ⟨by rfl, ?_⟩) ?_ ?_
                               rotate_left; focus (intro w'; go_simp; with_reducible rfl)
                               rotate_left; focus (simp only [Act.put, z1, z2, z3, i64_w, i32_w]; rfl)
                               refine take_ (i := 12) (N := some 84) (v := ?_) (a' := ?_) #[true,true,true,true,true,true,true,true,true,true,true,true,true,false,false,true,false,true,false,false,false,false,false] rfl rfl (take_ofW HT_.out HW_.out (by kernel_rfl)) (fun _ _ _ h => h) (Or.inl ⟨by rfl, ?_⟩) hHeld ?_ ?_
                               rotate_left
                               · rintro w' ⟨s0, s1, s2, s3, s4, s5, s6, s7, s8, s9, s10, s11, s12⟩
                                 go_simp
                                 with_reducible rfl
                               rotate_left; focus (simp only [Act.put, z1, z2, z3, i64_w, i32_w]; rfl)
                               refine pure_ (i := 13) (N := some 85) (v := ?_) (a' := ?_) #[true,true,true,true,true,true,true,true,true,true,true,true,true,true,false,true,false,true,false,false,false,false,false] rfl rfl (any_of HT_.out (by kernel_rfl)) (fun _ _ _ h => h) (Or.inl ⟨by rfl, ?_⟩) ?_ ?_
                               rotate_left; focus (intro w'; go_simp; with_reducible rfl)
                               rotate_left; focus (simp only [Act.put, z1, z2, z3, i64_w, i32_w]; rfl)
                               refine take_ (i := 14) (N := some 86) (v := ?_) (a' := ?_) #[true,true,true,true,true,true,true,true,true,true,true,true,true,true,true,true,false,true,false,false,false,false,false] rfl rfl (take_ofW HT_.out HW_.out (by kernel_rfl)) (fun _ _ _ h => h) (Or.inl ⟨by rfl, ?_⟩) hHeld ?_ ?_
                               rotate_left
                               · rintro w' ⟨s0, s1, s2, s3, s4, s5, s6, s7, s8, s9, s10, s11, s12⟩
                                 go_simp
                                 with_reducible rfl
                               rotate_left; focus (simp only [Act.put, z1, z2, z3, i64_w, i32_w]; rfl)
                               refine take_ (i := 16) (N := some 88) (v := ?_) (a' := ?_) (zb 18 5) rfl rfl (take_ofW HT_.out HW_.out (by kernel_rfl)) (fun _ _ _ h => h) (Or.inl ⟨by rfl, ?_⟩) hHeld ?_ ?_
                               rotate_left
                               · rintro w' ⟨s0, s1, s2, s3, s4, s5, s6, s7, s8, s9, s10, s11, s12⟩
                                 go_simp
                                 with_reducible rfl
                               rotate_left; focus (simp only [Act.put, z1, z2, z3, i64_w, i32_w]; rfl)
                               refine pure_ (i := 18) (N := some 90) (v := ?_) (a' := ?_) (zb 19 4) rfl rfl (any_of HT_.out (by kernel_rfl)) (fun _ _ _ h => h) (Or.inl ⟨by rfl, ?_⟩) ?_ ?_
                               rotate_left; focus (intro w'; go_simp; with_reducible rfl)
                               rotate_left; focus (simp only [Act.put, z1, z2, z3, i64_w, i32_w]; rfl)
                               refine pure_ (i := 19) (N := some 91) (v := ?_) (a' := ?_) (zb 20 3) rfl rfl (any_of HT_.out (by kernel_rfl)) (fun _ _ _ h => h) (Or.inl ⟨by rfl, ?_⟩) ?_ ?_
                               rotate_left; focus (intro w'; go_simp; with_reducible rfl)
                               rotate_left; focus (simp only [Act.put, z1, z2, z3, i64_w, i32_w]; rfl)
                               refine pure_ (i := 20) (N := some 92) (v := ?_) (a' := ?_) (zb 21 2) rfl rfl (any_of HT_.out (by kernel_rfl)) (fun _ _ _ h => h) (Or.inl ⟨by rfl, ?_⟩) ?_ ?_
                               rotate_left; focus (intro w'; go_simp; with_reducible rfl)
                               rotate_left; focus (simp only [Act.put, z1, z2, z3, i64_w, i32_w]; rfl)
                               refine pure_ (i := 21) (N := some 93) (v := ?_) (a' := ?_) (zb 22 1) rfl rfl (any_of HT_.out (by kernel_rfl)) (fun _ _ _ h => h) (Or.inl ⟨by rfl, ?_⟩) ?_ ?_
                               rotate_left; focus (intro w'; go_simp; with_reducible rfl)
                               rotate_left; focus (simp only [Act.put, z1, z2, z3, i64_w, i32_w]; rfl)
                               refine last_ (i := 22) (N := none) (zb 23 0) rfl rfl (one_of HT_.out (by kernel_rfl)) (by decide) (fun K hK => ?_)
                               refine skip_ (w1 := ?_) (by rfl) rfl ?_ ?_
                               rotate_left; focus (go_simp; rfl)
                               refine hK.out _ _ ?_
                               clear hK K
                               refine done_ (done_of HT_.out (by kernel_rfl)) ?_
                               try go_wp2
                               go_roundg k2
                               case measure => have := HK1.out; have := HK2.out; omega
                               case rel => exact ⟨(y246), (wrap64 (x57_2 + 1)), (by first | rfl | (simp; done) | (simp [*]; done)), H', ⟨by have := HK1.out; have := HK2.out; omega⟩, ⟨by (with_reducible repeat (first | apply Kd.R_alloc | apply Kd.R_drewN | apply Kd.R_drew)); exact HQ78.out⟩, ⟨by (with_reducible repeat (first | refine blk_drewN ?_ _ | refine blk_drew ?_ | refine blk_alloc ?_ _)); refine blk_far ?_ (by have h_ := Kd.R_ne HO_11.out BK233.out (by decide); intro e_; exact h_ (by rw [e_]; rfl)) _; (with_reducible repeat (first | refine blk_drewN ?_ _ | refine blk_drew ?_ | refine blk_alloc ?_ _)); refine blk_far ?_ (by have h_ := Kd.R_ne HO_11.out BK233.out (by decide); intro e_; exact h_ (by rw [e_]; rfl)) _; (with_reducible repeat (first | refine blk_drewN ?_ _ | refine blk_drew ?_ | refine blk_alloc ?_ _)); exact BK233.out⟩, ⟨by repeat (first | (with_reducible first | exact HB.out | apply below_alloc | apply pw_below_drewN | apply below_drew1 | refine below_set ?_ GB33.out | refine below_set ?_ GB33.out | refine below_set ?_ GE233.out | refine below_set ?_ GE243.out) | exact HB.out)⟩⟩
                           · rw [if_neg c32] at H
                             exact absurd H (by simp)
                         · rw [if_neg c31] at H
                           exact absurd H (by simp)
                       · rw [if_neg c30] at H
                         exact absurd H (by simp)
                     · rw [if_neg c28] at H
                       exact absurd H (by simp)
                   · rw [if_neg c27] at H
                     exact absurd H (by simp)
                 · rw [if_neg c26] at H
                   exact absurd H (by simp)
               · rw [if_neg c25] at H
                 exact absurd H (by simp)
             · rw [if_neg c24] at H
               have c24b0 : decide (x57_2 < (l0_1.length : Int)) = false := decide_eq_false c24
               clear c24
               have H' := Aside0.mk H
               clear H
               have hcz79_0 : wr.cell? ⟨gb233, 0, none⟩ = some (.int .i64 a0_0) := (blk_cell BK233.out 0).trans rfl
               have hcz79_1 : wr.cell? ⟨gb233, 1, none⟩ = some (.slice A0_1 l0_1.length c0_1) := (blk_cell BK233.out 1).trans rfl
               have hcz79_2 : wr.cell? ⟨gb233, 2, none⟩ = some (.slice A0_2 l0_2.length c0_2) := (blk_cell BK233.out 2).trans rfl
               have hfz79_0 := blk_frozen BK233.out 0
               have hfz79_1 := blk_frozen BK233.out 1
               have hfz79_2 := blk_frozen BK233.out 2
               go_wp2
               go_loopg [16, 130] k2 (fun kq v16 v130 w' => ∃ (x16_3 : List (S45)) (x130_3 : Int), v130 = .int .i64 x130_3 ∧ Aside0 (tree_Arrivals.l2 kq x11_2 x16_3 l0_2 (l0_2.length : Int) x130_3 = some (r1, r2)) ∧ Aside0 (kq ≤ k2) ∧ Aside0 (Kd.R k45 45 w' w.heap.size (fun k_ => some k_ ≠ (v16 : Value).ownBlock) v238 x11_2) ∧ Aside0 (Kd.R k45 45 w' w.heap.size (fun k_ => some k_ ≠ (v238 : Value).ownBlock) v16 x16_3) ∧ Aside0 (w'.heap[gb233]? = some (.cells #[.int .i64 a0_0, (.slice A0_1 l0_1.length c0_1), (.slice A0_2 l0_2.length c0_2)] 24 (0, 0))) ∧ Aside0 (Below w.heap.size w w'))
               case atStart => exact ⟨(([] : List (S45))), (0), (by first | rfl | (simp; done) | (simp [*]; done)), H', ⟨Nat.le_refl _⟩, ⟨by (with_reducible repeat (first | apply Kd.R_alloc | apply Kd.R_drewN | apply Kd.R_drew)); exact Kd.R_mono HO_11.out (fun _ hk => (by simp [Value.ownBlock]))⟩, ⟨by first | exact Kd.R_nil _ _ _ _ _ | exact Kd.N_nil _ _ _ _ _ | exact Kd.V_nil _ _ _ _ _ | exact Kd.Q_nil _ _ _ _ _ | exact Kd.S_nil _ _ _ _ _⟩, ⟨by (with_reducible repeat (first | refine blk_drewN ?_ _ | refine blk_drew ?_ | refine blk_alloc ?_ _)); exact BK233.out⟩, ⟨by repeat (first | (with_reducible first | exact HB.out | apply below_alloc | apply pw_below_drewN | apply below_drew1 | refine below_set ?_ GE233.out) | exact HB.out)⟩⟩
               case round =>
                clear H'
                clear c24b0 hcz79_0 hcz79_1 hcz79_2 hfz79_0 hfz79_1 hfz79_2
                obtain ⟨x16_3, x130_3, rfl, HA, HK3, HO_11, HO_16, BK233, HB⟩ := hrel
                cases gk with
                | zero => exact absurd HA.out (by simp [tree_Arrivals.l2])
                | succ k3 =>
                 have H := HA.out
                 clear HA
                 simp only [tree_Arrivals.l2] at H
                 by_cases c80 : x130_3 < (l0_2.length : Int)
                 · rw [if_pos c80] at H
                   have c80b0 : decide (x130_3 < (l0_2.length : Int)) = true := decide_eq_true c80
                   clear c80
                   by_cases c81 : 0 ≤ x130_3
                   · rw [if_pos c81] at H
                     have c81b0 : decide (0 ≤ x130_3) = true := decide_eq_true c81
                     clear c81
                     by_cases c82 : x130_3 < (l0_2.length : Int)
                     · rw [if_pos c82] at H
                       have c82b0 : decide (x130_3 < (l0_2.length : Int)) = true := decide_eq_true c82
                       clear c82
                       by_cases c83 : (rd l0_2 x130_3) < 0
                       · rw [if_pos c83] at H
                         have c83b0 : decide ((rd l0_2 x130_3) < 0) = true := decide_eq_true c83
                         clear c83
                         by_cases c84 : x16_3.length < 8796093022208
                         · rw [if_pos c84] at H
                           have LMc84 := Aside0.mk c84
                           clear c84
                           obtain ⟨y254, hy254⟩ : ∃ y_ : List (S45), y_ = (x16_3 ++ [(⟨0, 0⟩ : S45)]) := ⟨_, rfl⟩
                           replace H : (tree_Arrivals.l2 k3 x11_2 y254 l0_2 (l0_2.length : Int) (wrap64 (x130_3 + 1))) = some (r1, r2) := by first | (rw [hy254]; with_reducible exact H) | (have H2_ := (Option.bind_some _ _).symm.trans H; rw [hy254]; with_reducible exact H2_) | (have H2_ := (Option.bind_some _ _).symm.trans H; with_reducible exact H2_) | with_reducible exact H | (rw [hy254]; exact H) | exact H
                           have Ny254 := Aside0.mk hy254
                           clear hy254
                           have H' := Aside0.mk H
                           clear H
                           have p253 : 0 ≤ (x130_3 : Int) := of_decide_eq_true (by first | (with_reducible assumption) | assumption)
                           have q253 : x130_3 < (l0_2.length : Int) := of_decide_eq_true (by first | (with_reducible assumption) | assumption)
                           obtain ⟨ad253, e253, hx253_0⟩ := Kd.at_int HR0_2.out x130_3 p253 q253
                           cases e253
                           replace hx253_0 := (HB.out.cell (World.block_lt_of_cell? w _ hx253_0)).trans hx253_0
                           replace p253 := eq_true p253
                           replace q253 := eq_true q253
                           go_wp2_with ((with_reducible refine gate_builtin (b := .append) (xs := #[.tmp 136, .tmp 138]) rfl ?_); (try (refine gate_guard (by rfl) ?_; dsimp only)); at_builtin; refine Kd.R_append k45 (w0 := w) w.heap.size rfl (.tmp 136) (.tmp 138) 38 45 (.agg #[(.int .i64 0), (.int .i64 0)]) 16 rfl Try.underlying38 info45 rfl (by decide) (by omega) u16 x16_3 (⟨0, 0⟩ : S45) [.int .i64 0, .int .i64 0] (fun k_ => some k_ ≠ (v238 : Value).ownBlock) (fun _ => False) rfl rfl ?aP (fun _ hk => hk.elim) ?aF ?aO ?aB ?aS ?aL ?_; (case aP => exact k45_mkM _ _ _ (⟨0, 0⟩ : S45)); (case aB => exact (by repeat (first | (with_reducible first | exact HB.out | apply below_alloc | apply pw_below_drewN | apply below_drew1 | refine below_set ?_ GE233.out) | exact HB.out))); (case aF => exact (fun k_ hk => Kd.fresh' (Kd.R_lt (by (with_reducible repeat (first | apply Kd.R_alloc | apply Kd.R_drewN | apply Kd.R_drew)); exact HO_11.out)) k_ hk)); (case aO => exact (by (with_reducible repeat (first | apply Kd.R_alloc | apply Kd.R_drewN | apply Kd.R_drew)); exact HO_16.out)); (case aS => exact (below_size (by repeat (first | (with_reducible first | exact HB.out | apply below_alloc | apply pw_below_drewN | apply below_drew1 | refine below_set ?_ GE233.out) | exact HB.out)))); (case aL => have := LMc84.out; omega); intro v255 w85 ho hb hg hat; rw [← Ny254.out] at ho; have n0_ := Aside0.mk (Kd.R_after (ok := (fun _ => True)) (by (with_reducible repeat (first | apply Kd.R_alloc | apply Kd.R_drewN | apply Kd.R_drew)); exact Kd.R_mono HO_11.out (fun _ hk => ⟨trivial, hk⟩)) hg hat); have n1_ := Aside0.mk (blk_grown (g := gb233) (o := .cells #[.int .i64 a0_0, .slice A0_1 l0_1.length c0_1, .slice (some ad253) l0_2.length c0_2] 24 (0, 0)) (by (with_reducible repeat (first | refine blk_drewN ?_ _ | refine blk_drew ?_ | refine blk_alloc ?_ _)); exact BK233.out) hg (Kd.R_ne HO_16.out BK233.out (by decide))); have n2_ := Aside0.mk (hb); have n3_ := Aside0.mk (ho); clear HO_11; clear BK233; clear HB; clear HO_16; have HO_11 := n0_; have BK233 := n1_; have HB := n2_; have HO256 := n3_; clear n0_ n1_ n2_ n3_; clear ho hb hg hat)
                           go_roundg k3
                           case measure => have := HK1.out; have := HK2.out; have := HK3.out; omega
                           case rel => exact ⟨(y254), (wrap64 (x130_3 + 1)), (by first | rfl | (simp; done) | (simp [*]; done)), H', ⟨by have := HK1.out; have := HK2.out; have := HK3.out; omega⟩, ⟨by (with_reducible repeat (first | apply Kd.R_alloc | apply Kd.R_drewN | apply Kd.R_drew)); exact Kd.R_mono HO_11.out (fun _ hk => hk.2)⟩, ⟨by (with_reducible repeat (first | apply Kd.R_alloc | apply Kd.R_drewN | apply Kd.R_drew)); exact HO256.out⟩, ⟨by (with_reducible repeat (first | refine blk_drewN ?_ _ | refine blk_drew ?_ | refine blk_alloc ?_ _)); exact BK233.out⟩, ⟨by repeat (first | (with_reducible first | exact HB.out | apply below_alloc | apply pw_below_drewN | apply below_drew1 | refine below_set ?_ GE233.out) | exact HB.out)⟩⟩
                         · rw [if_neg c84] at H
                           exact absurd H (by simp)
                       · rw [if_neg c83] at H
                         have c83b0 : decide ((rd l0_2 x130_3) < 0) = false := decide_eq_false c83
                         clear c83
                         by_cases c86 : 0 ≤ (rd l0_2 x130_3)
                         · rw [if_pos c86] at H
                           have c86b0 : decide (0 ≤ (rd l0_2 x130_3)) = true := decide_eq_true c86
                           clear c86
                           by_cases c87 : (rd l0_2 x130_3) < (x11_2.length : Int)
                           · rw [if_pos c87] at H
                             have c87b0 : decide ((rd l0_2 x130_3) < (x11_2.length : Int)) = true := decide_eq_true c87
                             clear c87
                             by_cases c88 : x16_3.length < 8796093022208
                             · rw [if_pos c88] at H
                               have LMc88 := Aside0.mk c88
                               clear c88
                               obtain ⟨y258, hy258⟩ : ∃ y_ : List (S45), y_ = (x16_3 ++ [(⟨(rd_T45 x11_2 (rd l0_2 x130_3)).f0, (rd_T45 x11_2 (rd l0_2 x130_3)).f1⟩ : S45)]) := ⟨_, rfl⟩
                               replace H : (tree_Arrivals.l2 k3 x11_2 y258 l0_2 (l0_2.length : Int) (wrap64 (x130_3 + 1))) = some (r1, r2) := by first | (rw [hy258]; with_reducible exact H) | (have H2_ := (Option.bind_some _ _).symm.trans H; rw [hy258]; with_reducible exact H2_) | (have H2_ := (Option.bind_some _ _).symm.trans H; with_reducible exact H2_) | with_reducible exact H | (rw [hy258]; exact H) | exact H
                               have Ny258 := Aside0.mk hy258
                               clear hy258
                               have H' := Aside0.mk H
                               clear H
                               have p253 : 0 ≤ (x130_3 : Int) := of_decide_eq_true (by first | (with_reducible assumption) | assumption)
                               have q253 : x130_3 < (l0_2.length : Int) := of_decide_eq_true (by first | (with_reducible assumption) | assumption)
                               obtain ⟨ad253, e253, hx253_0⟩ := Kd.at_int HR0_2.out x130_3 p253 q253
                               cases e253
                               replace hx253_0 := (HB.out.cell (World.block_lt_of_cell? w _ hx253_0)).trans hx253_0
                               replace p253 := eq_true p253
                               replace q253 := eq_true q253
                               obtain ⟨Ao89, co89, eo89⟩ := Kd.R_slice HO_11.out
                               subst eo89
                               have p257 : 0 ≤ ((rd l0_2 x130_3) : Int) := of_decide_eq_true (by first | (with_reducible assumption) | assumption)
                               have q257 : (rd l0_2 x130_3) < (x11_2.length : Int) := of_decide_eq_true (by first | (with_reducible assumption) | assumption)
                               obtain ⟨ad257, e257, hx257_0, hx257_1⟩ := at_T45 (Kd.R_reads' HO_11.out).2.2 (rd l0_2 x130_3) p257 q257
                               cases e257
                               replace p257 := eq_true p257
                               replace q257 := eq_true q257
                               go_wp2_with ((with_reducible refine gate_builtin (b := .append) (xs := #[.tmp 140, .tmp 145]) rfl ?_); (try (refine gate_guard (by rfl) ?_; dsimp only)); at_builtin; refine Kd.R_append k45 (w0 := w) w.heap.size rfl (.tmp 140) (.tmp 145) 38 45 (.agg #[(.int .i64 0), (.int .i64 0)]) 16 rfl Try.underlying38 info45 rfl (by decide) (by omega) u16 x16_3 (⟨(rd_T45 x11_2 (rd l0_2 x130_3)).f0, (rd_T45 x11_2 (rd l0_2 x130_3)).f1⟩ : S45) [.int .i64 ((rd_T45 x11_2 (rd l0_2 x130_3)).f0), .int .i64 ((rd_T45 x11_2 (rd l0_2 x130_3)).f1)] (fun k_ => some k_ ≠ (.slice (some ad257) x11_2.length co89 : Value).ownBlock) (fun _ => False) rfl rfl ?aP (fun _ hk => hk.elim) ?aF ?aO ?aB ?aS ?aL ?_; (case aP => exact k45_mkM _ _ _ (⟨(rd_T45 x11_2 (rd l0_2 x130_3)).f0, (rd_T45 x11_2 (rd l0_2 x130_3)).f1⟩ : S45)); (case aB => exact (by repeat (first | (with_reducible first | exact HB.out | apply below_alloc | apply pw_below_drewN | apply below_drew1 | refine below_set ?_ GE233.out) | exact HB.out))); (case aF => exact (fun k_ hk => Kd.fresh' (Kd.R_lt (by (with_reducible repeat (first | apply Kd.R_alloc | apply Kd.R_drewN | apply Kd.R_drew)); exact HO_11.out)) k_ hk)); (case aO => exact (by (with_reducible repeat (first | apply Kd.R_alloc | apply Kd.R_drewN | apply Kd.R_drew)); exact HO_16.out)); (case aS => exact (below_size (by repeat (first | (with_reducible first | exact HB.out | apply below_alloc | apply pw_below_drewN | apply below_drew1 | refine below_set ?_ GE233.out) | exact HB.out)))); (case aL => have := LMc88.out; omega); intro v259 w90 ho hb hg hat; rw [← Ny258.out] at ho; have n0_ := Aside0.mk (Kd.R_after (ok := (fun _ => True)) (by (with_reducible repeat (first | apply Kd.R_alloc | apply Kd.R_drewN | apply Kd.R_drew)); exact Kd.R_mono HO_11.out (fun _ hk => ⟨trivial, hk⟩)) hg hat); have n1_ := Aside0.mk (blk_grown (g := gb233) (o := .cells #[.int .i64 a0_0, .slice A0_1 l0_1.length c0_1, .slice (some ad253) l0_2.length c0_2] 24 (0, 0)) (by (with_reducible repeat (first | refine blk_drewN ?_ _ | refine blk_drew ?_ | refine blk_alloc ?_ _)); exact BK233.out) hg (Kd.R_ne HO_16.out BK233.out (by decide))); have n2_ := Aside0.mk (hb); have n3_ := Aside0.mk (ho); clear HO_11; clear BK233; clear HB; clear HO_16; have HO_11 := n0_; have BK233 := n1_; have HB := n2_; have HO260 := n3_; clear n0_ n1_ n2_ n3_; clear ho hb hg hat)
                               go_roundg k3
                               case measure => have := HK1.out; have := HK2.out; have := HK3.out; omega
                               case rel => exact ⟨(y258), (wrap64 (x130_3 + 1)), (by first | rfl | (simp; done) | (simp [*]; done)), H', ⟨by have := HK1.out; have := HK2.out; have := HK3.out; omega⟩, ⟨by (with_reducible repeat (first | apply Kd.R_alloc | apply Kd.R_drewN | apply Kd.R_drew)); exact Kd.R_mono HO_11.out (fun _ hk => hk.2)⟩, ⟨by (with_reducible repeat (first | apply Kd.R_alloc | apply Kd.R_drewN | apply Kd.R_drew)); exact HO260.out⟩, ⟨by (with_reducible repeat (first | refine blk_drewN ?_ _ | refine blk_drew ?_ | refine blk_alloc ?_ _)); exact BK233.out⟩, ⟨by repeat (first | (with_reducible first | exact HB.out | apply below_alloc | apply pw_below_drewN | apply below_drew1 | refine below_set ?_ GE233.out) | exact HB.out)⟩⟩
                             · rw [if_neg c88] at H
                               exact absurd H (by simp)
                           · rw [if_neg c87] at H
                             exact absurd H (by simp)
                         · rw [if_neg c86] at H
                           exact absurd H (by simp)
                     · rw [if_neg c82] at H
                       exact absurd H (by simp)
                   · rw [if_neg c81] at H
                     exact absurd H (by simp)
                 · rw [if_neg c80] at H
                   have c80b0 : decide (x130_3 < (l0_2.length : Int)) = false := decide_eq_false c80
                   clear c80
                   simp only [Option.some.injEq, Prod.mk.injEq] at H
                   obtain ⟨rfl, rfl⟩ := H
                   go_wp2
                   go_ret2
                   exact ⟨_, by first | rfl | (simp [errW_none, errW_some] <;> rfl) | (simp [*, errW_none, errW_some] <;> rfl), by (with_reducible repeat (first | apply Kd.R_alloc | apply Kd.R_drewN | apply Kd.R_drew)); exact Kd.R_mono HO_16.out (fun _ hk => trivial), by repeat (first | (with_reducible first | exact HB.out | apply below_alloc | apply pw_below_drewN | apply below_drew1 | refine below_set ?_ GE233.out) | exact HB.out)⟩
         · rw [if_neg c19] at H
           exact absurd H (by simp)
       · rw [if_neg c18] at H
         exact absurd H (by simp)
 · rw [if_neg c5] at H
   have c5b0 : (t234 == 0) = false := beq_eq_false_iff_ne.mpr c5
   have c5b1 : (t234 != 0) = true := bne_iff_ne.mpr c5
   simp only [Option.some.injEq, Prod.mk.injEq] at H
   obtain ⟨rfl, rfl⟩ := H
   go_enter Try.func16, Try.ntmps16
   go_wp2_with (first | ((with_reducible refine gate_dst (N := 3) rfl ?_); (try (refine gate_guard (by rfl) ?_; dsimp only)); refine box_event ?hg (N := 3) ?hd (cs := #[.int .i64 a0_0, .slice A0_1 l0_1.length c0_1, .slice A0_2 l0_2.length c0_2]) (t := 24) ?hr ?_; (case hd => rfl); (case hg => rfl); (case hr => first | (go_simp; done) | (go_simp; rfl)); intro gb233 hg w91 hbox hb; have n0_ := Aside0.mk (below_step (by repeat (first | (with_reducible first | exact HB.out | apply below_alloc | apply pw_below_drewN | apply below_drew1) | exact HB.out)) hb); have n1_ := Aside0.mk (hbox); have n2_ := Aside0.mk ((by rw [hg]; exact (below_size (by repeat (first | (with_reducible first | exact HB.out | apply below_alloc | apply pw_below_drewN | apply below_drew1) | exact HB.out))) : w.heap.size ≤ gb233)); have n3_ := Aside0.mk ((by rw [hg]; exact (below_size (by repeat (first | (with_reducible first | exact HB.out | apply below_alloc | apply pw_below_drewN | apply below_drew1) | exact HB.out))) : w.heap.size ≤ gb233)); clear HB; have HB := n0_; have BK233 := n1_; have GW233 := n2_; have GE233 := n3_; clear n0_ n1_ n2_ n3_; clear hb hbox hg; have hcz92_0 : w91.cell? ⟨gb233, 0, none⟩ = some (.int .i64 a0_0) := (blk_cell BK233.out 0).trans rfl; have hcz92_1 : w91.cell? ⟨gb233, 1, none⟩ = some (.slice A0_1 l0_1.length c0_1) := (blk_cell BK233.out 1).trans rfl; have hcz92_2 : w91.cell? ⟨gb233, 2, none⟩ = some (.slice A0_2 l0_2.length c0_2) := (blk_cell BK233.out 2).trans rfl; have hfz92_0 := blk_frozen BK233.out 0; have hfz92_1 := blk_frozen BK233.out 1; have hfz92_2 := blk_frozen BK233.out 2) | ((with_reducible refine gate_callee (f := 7) rfl ?_); refine goesL_ (some 23) rfl rfl Try.func7 (by kernel_rfl) rfl #[.agg #[.int .i64 a0_0, .slice A0_1 l0_1.length c0_1, .slice A0_2 l0_2.length c0_2], .int .i64 (l2.length : Int), .slice A1 l1.length c1] rfl (by (try simp only [List.map_toArray, List.map_cons, List.map_nil]); first | done | rfl | (simp only [List.length_drop, List.length_take]; rfl)) ?_; (with_reducible refine (tree_Check.calls k a0_0 _ _ l0_1 _ _ l0_2 (l2.length : Int) _ _ l1 t234 _ ?side1 ?side2 ?side3 ?side4 ?side5 ?side6 A4.out).mono ?_); (case side1 => repeat (first | exact (Kd.C_below HR0_1.out HB.out) | (with_reducible refine Kd.C_alloc ?_ _) | (with_reducible refine Kd.C_drewN ?_ _) | (with_reducible refine Kd.C_drew ?_))); (case side2 => exact HC0_1.out); (case side3 => repeat (first | exact (Kd.C_below HR0_2.out HB.out) | (with_reducible refine Kd.C_alloc ?_ _) | (with_reducible refine Kd.C_drewN ?_ _) | (with_reducible refine Kd.C_drew ?_))); (case side4 => exact HC0_2.out); (case side5 => repeat (first | exact (Kd.C_below HR1.out HB.out) | (with_reducible refine Kd.C_alloc ?_ _) | (with_reducible refine Kd.C_drewN ?_ _) | (with_reducible refine Kd.C_drew ?_))); (case side6 => exact HC1.out); rintro e w93 ⟨rfl, hb⟩; refine ⟨_, rfl, ?_⟩; have n0_ := Aside0.mk (blk_below (g := gb233) (o := .cells #[.int .i64 a0_0, .slice A0_1 l0_1.length c0_1, .slice A0_2 l0_2.length c0_2] 24 (0, 0)) (by (with_reducible repeat (first | refine blk_drewN ?_ _ | refine blk_drew ?_ | refine blk_alloc ?_ _)); exact BK233.out) hb); have n1_ := Aside0.mk (below_step (by repeat (first | (with_reducible first | exact HB.out | apply below_alloc | apply pw_below_drewN | apply below_drew1 | refine below_set ?_ GE233.out) | exact HB.out)) hb); clear BK233; clear HB; have BK233 := n0_; have HB := n1_; clear n0_ n1_; (try clear hb); (try clear hb2); (try clear hk); (try clear hi)))
   go_ret2
   exact ⟨_, by first | rfl | (simp [errW_none, errW_some] <;> rfl) | (simp [*, errW_none, errW_some] <;> rfl), by first | exact Kd.R_nil _ _ _ _ _ | exact Kd.N_nil _ _ _ _ _ | exact Kd.V_nil _ _ _ _ _ | exact Kd.Q_nil _ _ _ _ _ | exact Kd.S_nil _ _ _ _ _, by repeat (first | (with_reducible first | exact HB.out | apply below_alloc | apply pw_below_drewN | apply below_drew1 | refine below_set ?_ GE233.out) | exact HB.out)⟩

end Go.Proofs.Ytagpbgabcenodaa.PB
