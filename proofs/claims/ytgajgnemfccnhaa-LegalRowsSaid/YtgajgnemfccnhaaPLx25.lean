-- PRINTED by print.py (a twelfth state) out of the translation. Not trusted: Lean checks it.
import Derived.Test.YtgajgnemfccnhaaPLx0
namespace Go.Proofs.Ytgajgnemfccnhaa.PL
open Go.RowKit Go.Proofs.YtgajgnemfccnhaaW.PrintWords Go.Proofs.YtgajgnemfccnhaaW.PrintLast Go.Proofs.YtgajgnemfccnhaaW.PrintMore
attribute [local go_sem] max2_int min2_int max_two min_two max_three min_three max_four min_four   -- for this text's walks alone
private theorem z1 {α : Type} {l : List α} {i : Nat} {a : α} : l.toArray.setIfInBounds i a = (l.set i a).toArray := List.setIfInBounds_toArray _ _ _
private theorem z2 {α : Type} {x : α} {xs : List α} {a : α} : (x :: xs).set 0 a = a :: xs := List.set_cons_zero
private theorem z3 {α : Type} {x : α} {xs : List α} {n : Nat} {a : α} : (x :: xs).set (n + 1) a = x :: xs.set n a := List.set_cons_succ
set_option linter.unusedVariables false
set_option linter.unusedSimpArgs false

/-! ### maskref4_BestRow: function 34 -/
mutual
def maskref4_BestRow.l0 : Nat → List Int → List Int → Int → Int → List Int → Int → Int → Int → Int → Option (List Int × Int)
 | 0, _, _, _, _, _, _, _, _, _ => none
 | k + 1, x0, x1, x9, x10, x20, x21, x22, x314000, x314001 => if x22 < x21 then (if 0 ≤ x22 then (if x22 < (x20.length : Int) then (maskref4_BestRow.l0 k x0 x1 x9 (wrap64 (x10 + (rd x20 x22))) x20 x21 (wrap64 (x22 + 1)) x314000 x314001) else (none)) else (none)) else (maskref4_BestRow.l1 k x0 x1 ([] : List Int) x9 x10 x314000 x314000 x314001)
def maskref4_BestRow.l1 : Nat → List Int → List Int → List Int → Int → Int → Int → Int → Int → Option (List Int × Int)
 | 0, _, _, _, _, _, _, _, _ => none
 | k + 1, x0, x1, x8, x9, x10, x13, x314000, x314001 => if 0 < (x1.length : Int) then (if (wrap64 ((wrap64 (x13 + (rd x1 0))) + x10)) ≤ x314001 then (if 1 ≤ (x0.length : Int) then (if 1 ≤ (x1.length : Int) then ((maskref4_BestRow.f k (x0.drop 1) (x1.drop 1) (wrap64 (x13 + (rd x1 0))) x314001).bind fun bt320 => (if 0 < (x0.length : Int) then (if x9 < 0 then ((some (([x13] : List Int) : List Int)).bind fun y326 => (if y326.length + bt320.1.length < 17592186044416 then (maskref4_BestRow.l1 k x0 x1 (y326 ++ bt320.1) (wrap64 (bt320.2 + (wrap64 ((wrap64 (x13 - (rd x0 0))) * (wrap64 (x13 - (rd x0 0))))))) x10 (wrap64 (x13 + 1)) x314000 x314001) else (none))) else (if (wrap64 (bt320.2 + (wrap64 ((wrap64 (x13 - (rd x0 0))) * (wrap64 (x13 - (rd x0 0))))))) < x9 then ((some (([x13] : List Int) : List Int)).bind fun y332 => (if y332.length + bt320.1.length < 17592186044416 then (maskref4_BestRow.l1 k x0 x1 (y332 ++ bt320.1) (wrap64 (bt320.2 + (wrap64 ((wrap64 (x13 - (rd x0 0))) * (wrap64 (x13 - (rd x0 0))))))) x10 (wrap64 (x13 + 1)) x314000 x314001) else (none))) else (maskref4_BestRow.l1 k x0 x1 x8 x9 x10 (wrap64 (x13 + 1)) x314000 x314001))) else (none))) else (none)) else (none)) else (some (x8, x9))) else (none)
def maskref4_BestRow.f : Nat → List Int → List Int → Int → Int → Option (List Int × Int)
 | 0, _, _, _, _ => none
 | k + 1, l0, l1, a2_0, a2_1 => if (l0.length : Int) = 0 then (some (([] : List Int), 0)) else (if 1 ≤ (l1.length : Int) then (maskref4_BestRow.l0 k l0 l1 (-1) 0 (l1.drop 1) ((l1.drop 1).length : Int) 0 a2_0 a2_1) else (none))
end
theorem maskref4_BestRow.mono_l : ∀ k, (∀ y0 y1 y2 y3, LeO (maskref4_BestRow.f k y0 y1 y2 y3) (maskref4_BestRow.f (k + 1) y0 y1 y2 y3)) ∧ (∀ y0 y1 y2 y3 y4 y5 y6 y7 y8, LeO (maskref4_BestRow.l0 k y0 y1 y2 y3 y4 y5 y6 y7 y8) (maskref4_BestRow.l0 (k + 1) y0 y1 y2 y3 y4 y5 y6 y7 y8)) ∧ (∀ y0 y1 y2 y3 y4 y5 y6 y7, LeO (maskref4_BestRow.l1 k y0 y1 y2 y3 y4 y5 y6 y7) (maskref4_BestRow.l1 (k + 1) y0 y1 y2 y3 y4 y5 y6 y7))
 | 0 => ⟨fun _ _ _ _ r h => by simp [maskref4_BestRow.f] at h, fun _ _ _ _ _ _ _ _ _ r h => by simp [maskref4_BestRow.l0] at h, fun _ _ _ _ _ _ _ _ r h => by simp [maskref4_BestRow.l1] at h⟩
 | k + 1 => by
  obtain ⟨ih0, ih1, ih2⟩ := maskref4_BestRow.mono_l k
  refine ⟨?_, ?_, ?_⟩
  · intro y0 y1 y2 y3
    unfold maskref4_BestRow.f
    repeat' first
    | (with_reducible exact ih0 _ _ _ _)
    | (with_reducible exact ih1 _ _ _ _ _ _ _ _ _)
    | (with_reducible exact ih2 _ _ _ _ _ _ _ _)
    | (with_reducible exact LeO.refl _)
    | (with_reducible exact LeO.none _)
    | (with_reducible refine LeO.ite ?_ ?_)
    | (with_reducible refine LeO.bind ?_ (fun _ => ?_))
    | exact ih0 _ _ _ _
    | exact ih1 _ _ _ _ _ _ _ _ _
    | exact ih2 _ _ _ _ _ _ _ _
    | exact LeO.none _
    | refine LeO.ite ?_ ?_
    | refine LeO.bind ?_ (fun _ => ?_)
  · intro y0 y1 y2 y3 y4 y5 y6 y7 y8
    unfold maskref4_BestRow.l0
    repeat' first
    | (with_reducible exact ih0 _ _ _ _)
    | (with_reducible exact ih1 _ _ _ _ _ _ _ _ _)
    | (with_reducible exact ih2 _ _ _ _ _ _ _ _)
    | (with_reducible exact LeO.refl _)
    | (with_reducible exact LeO.none _)
    | (with_reducible refine LeO.ite ?_ ?_)
    | (with_reducible refine LeO.bind ?_ (fun _ => ?_))
    | exact ih0 _ _ _ _
    | exact ih1 _ _ _ _ _ _ _ _ _
    | exact ih2 _ _ _ _ _ _ _ _
    | exact LeO.none _
    | refine LeO.ite ?_ ?_
    | refine LeO.bind ?_ (fun _ => ?_)
  · intro y0 y1 y2 y3 y4 y5 y6 y7
    unfold maskref4_BestRow.l1
    repeat' first
    | (with_reducible exact ih0 _ _ _ _)
    | (with_reducible exact ih1 _ _ _ _ _ _ _ _ _)
    | (with_reducible exact ih2 _ _ _ _ _ _ _ _)
    | (with_reducible exact LeO.refl _)
    | (with_reducible exact LeO.none _)
    | (with_reducible refine LeO.ite ?_ ?_)
    | (with_reducible refine LeO.bind ?_ (fun _ => ?_))
    | exact ih0 _ _ _ _
    | exact ih1 _ _ _ _ _ _ _ _ _
    | exact ih2 _ _ _ _ _ _ _ _
    | exact LeO.none _
    | refine LeO.ite ?_ ?_
    | refine LeO.bind ?_ (fun _ => ?_)
theorem maskref4_BestRow.mono : ∀ a0 a1 a2 a3 k, LeO (maskref4_BestRow.f k a0 a1 a2 a3) (maskref4_BestRow.f (k + 1) a0 a1 a2 a3) := by
 intro a0 a1 a2 a3 k
 obtain ⟨ih0, ih1, ih2⟩ := maskref4_BestRow.mono_l k
 exact ih0 a0 a1 a2 a3
def maskref4_BestRow.T12 : Bool × List (List Nat × List Nat) := (true, [([], []), ([], []), ([1], [1]), ([2], [2]), ([0, 3], [0, 3]), ([], []), ([4, 5], [4, 5]), ([], []), ([7], [7]), ([6, 8], [6, 8])])
def maskref4_BestRow.B12 : List Nat := [0, 0, 2, 6, 15, 0, 63, 0, 128, 511]
theorem maskref4_BestRow.tab12 : rtab .any (opsOf Try.f34 12) = maskref4_BestRow.T12 := by kernel_rfl
theorem maskref4_BestRow.bits12 : waitsOk maskref4_BestRow.T12.2 maskref4_BestRow.B12 = true := by kernel_rfl
def maskref4_BestRow.T14 : Bool × List (List Nat × List Nat) := (true, [([], []), ([0], [0]), ([], []), ([2], [2]), ([], []), ([], []), ([5], [5]), ([6], [6]), ([4, 7], [4, 7]), ([], []), ([9], [9]), ([8, 10], [8, 10]), ([1, 3, 11], [1, 3, 11]), ([12], [12]), ([13], [13]), ([13], [13]), ([14, 12, 0, 1, 2, 3, 4, 5, 6, 7, 8, 9, 10, 11, 12, 13, 14], [14]), ([15, 16, 0, 1, 2, 3, 4, 5, 6, 7, 8, 9, 10, 11, 12, 13, 14, 15, 16], [15])])
def maskref4_BestRow.B14 : List Nat := [0, 1, 0, 4, 0, 0, 32, 96, 240, 0, 512, 2032, 4095, 8191, 16383, 16383, 32767, 131071]
theorem maskref4_BestRow.tab14 : rtab .any (opsOf Try.f34 14) = maskref4_BestRow.T14 := by kernel_rfl
theorem maskref4_BestRow.bits14 : waitsOk maskref4_BestRow.T14.2 maskref4_BestRow.B14 = true := by kernel_rfl
def maskref4_BestRow.T15 : Bool × List (List Nat × List Nat) := (true, [([], []), ([], []), ([], []), ([2], [2]), ([3], [3]), ([1, 4], [1, 4]), ([], []), ([], []), ([7], [7]), ([8], [8]), ([6, 9], [6, 9]), ([5, 10], [5, 10]), ([0, 11], [0, 11]), ([12, 0, 1, 2, 3, 4, 5, 6, 7, 8, 9, 10, 11, 12], [0, 12])])
def maskref4_BestRow.B15 : List Nat := [0, 0, 0, 4, 12, 30, 0, 0, 128, 384, 960, 2046, 4095, 8191]
theorem maskref4_BestRow.tab15 : rtab .any (opsOf Try.f34 15) = maskref4_BestRow.T15 := by kernel_rfl
theorem maskref4_BestRow.bits15 : waitsOk maskref4_BestRow.T15.2 maskref4_BestRow.B15 = true := by kernel_rfl
set_option maxHeartbeats 8000000 in
set_option maxRecDepth 100000 in
theorem maskref4_BestRow.calls (k : Nat) : ∀ (A0 : Option Addr) (c0 : Nat) (l0 : List Int) (A1 : Option Addr) (c1 : Nat) (l1 : List Int) (a2_0 : Int) (a2_1 : Int) (r1 : List Int) (r2 : Int) (w : World) (hr0 : Kd.C (Kd.int .i64) w A0 l0.length l0) (hc0 : l0.length ≤ c0) (hr1 : Kd.C (Kd.int .i64) w A1 l1.length l1) (hc1 : l1.length ≤ c1) (h : maskref4_BestRow.f k l0 l1 a2_0 a2_1 = some (r1, r2)),
 Calls Try.prog 34 #[.slice A0 l0.length c0, .slice A1 l1.length c1, .agg #[.int .i64 a2_0, .int .i64 a2_1]] w fun e w' => ∃ v0_ : Value, e = .returned (.tuple #[v0_, .int .i64 r2]) ∧ Kd.R (Kd.int .i64) 3 w' w.heap.size (fun _ => True) v0_ r1 ∧ Below w.heap.size w w' := by
 induction k using Nat.strongRecOn with
 | _ k ih =>
 intro A0 c0 l0 A1 c1 l1 a2_0 a2_1 r1 r2 w hr0 hc0 hr1 hc1 h
 cases k with
 | zero => exact absurd h (by simp [maskref4_BestRow.f])
 | succ k =>
 simp only [maskref4_BestRow.f] at h
 have hu62 := Try.underlying62
 have HR0 := Aside0.mk hr0
 have HC0 := Aside0.mk hc0
 clear hr0 hc0
 have HR1 := Aside0.mk hr1
 have HC1 := Aside0.mk hc1
 clear hr1 hc1
 have HB := Aside0.mk (Below.refl w.heap.size w)
 have H : (if (l0.length : Int) = 0 then (some (([] : List Int), 0)) else (if 1 ≤ (l1.length : Int) then (maskref4_BestRow.l0 k l0 l1 (-1) 0 (l1.drop 1) ((l1.drop 1).length : Int) 0 a2_0 a2_1) else (none))) = some (r1, r2) := h
 clear h
 by_cases c4 : (l0.length : Int) = 0
 · rw [if_pos c4] at H
   have c4b0 : ((l0.length : Int) == 0) = true := beq_iff_eq.mpr c4
   have c4b1 : ((l0.length : Int) != 0) = false := bne_eq_false_iff_eq.mpr c4
   clear c4
   simp only [Option.some.injEq, Prod.mk.injEq] at H
   obtain ⟨rfl, rfl⟩ := H
   go_enter Try.func34, Try.ntmps34
   go_wp2_with (first | ((with_reducible refine gate_dst (N := 5) rfl ?_); refine box_event ?hg (N := 5) ?hd (cs := #[.int .i64 a2_0, .int .i64 a2_1]) (t := 62) ?hr ?_; (case hd => rfl); (case hg => rfl); (case hr => first | (go_simp; done) | (go_simp; rfl)); intro gb313 hg w5 hbox hb; have n0_ := Aside0.mk (below_step (by repeat (first | (with_reducible first | exact HB.out | apply below_alloc | apply pw_below_drewN | apply below_drew1) | exact HB.out)) hb); have n1_ := Aside0.mk (hbox); have n2_ := Aside0.mk ((by rw [hg]; exact (below_size (by repeat (first | (with_reducible first | exact HB.out | apply below_alloc | apply pw_below_drewN | apply below_drew1) | exact HB.out))) : w.heap.size ≤ gb313)); have n3_ := Aside0.mk ((by rw [hg]; exact (below_size (by repeat (first | (with_reducible first | exact HB.out | apply below_alloc | apply pw_below_drewN | apply below_drew1) | exact HB.out))) : w.heap.size ≤ gb313)); clear HB; have HB := n0_; have BK313 := n1_; have GW313 := n2_; have GE313 := n3_; clear n0_ n1_ n2_ n3_; clear hb hbox hg))
   go_ret2
   exact ⟨_, by first | rfl | (simp [errW_none, errW_some] <;> rfl) | (simp [*, errW_none, errW_some] <;> rfl), by first | exact Kd.R_nil _ _ _ _ _ | exact Kd.N_nil _ _ _ _ _ | exact Kd.V_nil _ _ _ _ _ | exact Kd.Q_nil _ _ _ _ _ | exact Kd.S_nil _ _ _ _ _, by repeat (first | (with_reducible first | exact HB.out | apply below_alloc | apply pw_below_drewN | apply below_drew1 | refine below_set ?_ GE313.out) | exact HB.out)⟩
 · rw [if_neg c4] at H
   have c4b0 : ((l0.length : Int) == 0) = false := beq_eq_false_iff_ne.mpr c4
   have c4b1 : ((l0.length : Int) != 0) = true := bne_iff_ne.mpr c4
   have c4b2 : ¬ (l0 = []) := fun h_ => c4 (by rw [h_]; rfl)
   by_cases c6 : 1 ≤ (l1.length : Int)
   · rw [if_pos c6] at H
     have c6b0 := eq_true c6
     have c6b1 : decide (1 ≤ (l1.length : Int)) = true := decide_eq_true c6
     clear c6
     have H' := Aside0.mk H
     clear H
     go_enter Try.func34, Try.ntmps34
     go_wp2_with (first | ((with_reducible refine gate_dst (N := 5) rfl ?_); refine box_event ?hg (N := 5) ?hd (cs := #[.int .i64 a2_0, .int .i64 a2_1]) (t := 62) ?hr ?_; (case hd => rfl); (case hg => rfl); (case hr => first | (go_simp; done) | (go_simp; rfl)); intro gb313 hg w7 hbox hb; have n0_ := Aside0.mk (below_step (by repeat (first | (with_reducible first | exact HB.out | apply below_alloc | apply pw_below_drewN | apply below_drew1) | exact HB.out)) hb); have n1_ := Aside0.mk (hbox); have n2_ := Aside0.mk ((by rw [hg]; exact (below_size (by repeat (first | (with_reducible first | exact HB.out | apply below_alloc | apply pw_below_drewN | apply below_drew1) | exact HB.out))) : w.heap.size ≤ gb313)); have n3_ := Aside0.mk ((by rw [hg]; exact (below_size (by repeat (first | (with_reducible first | exact HB.out | apply below_alloc | apply pw_below_drewN | apply below_drew1) | exact HB.out))) : w.heap.size ≤ gb313)); clear HB; have HB := n0_; have BK313 := n1_; have GW313 := n2_; have GE313 := n3_; clear n0_ n1_ n2_ n3_; clear hb hbox hg; obtain ⟨i08, hi08, _, hsz8, _⟩ := info_parts info3; obtain ⟨A8, hcut8, hA8, hC8⟩ := print_drop_of (P := Try.prog) (Value.int .i64) 0 25 3 .i64 Try.underlying25 hi08 hsz8 A1 c1 l1 1 (by omega) (of_decide_eq_true (by first | (with_reducible assumption) | assumption)) HC1.out; have HR314 := Aside0.mk (Kd.C_of_reads (h1 := fun _ => rfl) (hA8 _ (Kd.reads_of_C HR1.out))); have HC314 := Aside0.mk hC8; clear hA8 hC8 hi08 hsz8))
     go_loopg [10, 22] k (fun kq v10 v22 w' => ∃ (x10_1 : Int) (x22_1 : Int), v10 = .int .i64 x10_1 ∧ v22 = .int .i64 x22_1 ∧ Aside0 (maskref4_BestRow.l0 kq l0 l1 (-1) x10_1 (l1.drop 1) ((l1.drop 1).length : Int) x22_1 a2_0 a2_1 = some (r1, r2)) ∧ Aside0 (kq ≤ k) ∧ Aside0 (w'.heap[gb313]? = some (.cells #[.int .i64 a2_0, .int .i64 a2_1] 62 (0, 0))) ∧ Aside0 (Below w.heap.size w w'))
     case atStart => exact ⟨(0), (0), (by first | rfl | (simp; done) | (simp [*]; done)), (by first | rfl | (simp; done) | (simp [*]; done)), H', ⟨Nat.le_refl _⟩, ⟨by (with_reducible repeat (first | refine blk_drewN ?_ _ | refine blk_drew ?_ | refine blk_alloc ?_ _)); exact BK313.out⟩, ⟨by repeat (first | (with_reducible first | exact HB.out | apply below_alloc | apply pw_below_drewN | apply below_drew1 | refine below_set ?_ GE313.out) | exact HB.out)⟩⟩
     case round =>
      clear H'
      try clear c1
      try clear p2
      try clear c3
      try clear c4
      try clear c4b0
      try clear c4b1
      try clear c4b2
      try clear c6
      try clear c6b0
      try clear c6b1
      obtain ⟨x10_1, x22_1, rfl, rfl, HA, HK1, BK313, HB⟩ := hrel
      cases gk with
      | zero => exact absurd HA.out (by simp [maskref4_BestRow.l0])
      | succ k1 =>
       have H := HA.out
       clear HA
       simp only [maskref4_BestRow.l0] at H
       by_cases c9 : x22_1 < ((l1.drop 1).length : Int)
       · rw [if_pos c9] at H
         have c9b0 : decide (x22_1 < ((l1.drop 1).length : Int)) = true := decide_eq_true c9
         have c9b0d : decide (x22_1 < ((l1.length - 1 : Nat) : Int)) = true := by rw [← List.length_drop]; exact c9b0
         have c9b0d : decide (x22_1 < ((l1.length - 1 : Nat) : Int)) = true := by rw [← List.length_drop]; exact c9b0
         clear c9
         by_cases c10 : 0 ≤ x22_1
         · rw [if_pos c10] at H
           have c10b0 : decide (0 ≤ x22_1) = true := decide_eq_true c10
           clear c10
           by_cases c11 : x22_1 < ((l1.drop 1).length : Int)
           · rw [if_pos c11] at H
             have c11b0 : decide (x22_1 < ((l1.drop 1).length : Int)) = true := decide_eq_true c11
             have c11b0d : decide (x22_1 < ((l1.length - 1 : Nat) : Int)) = true := by rw [← List.length_drop]; exact c11b0
             have c11b0d : decide (x22_1 < ((l1.length - 1 : Nat) : Int)) = true := by rw [← List.length_drop]; exact c11b0
             clear c11
             have H' := Aside0.mk H
             clear H
             have p315 : 0 ≤ (x22_1 : Int) := of_decide_eq_true (by first | (with_reducible assumption) | assumption)
             have q315 : x22_1 < ((l1.drop 1).length : Int) := of_decide_eq_true (by first | (with_reducible assumption) | assumption)
             obtain ⟨ad315, e315, hx315_0⟩ := Kd.at_int HR314.out x22_1 p315 q315
             cases e315
             replace hx315_0 := (HB.out.cell (World.block_lt_of_cell? w _ hx315_0)).trans hx315_0
             replace p315 := eq_true p315
             replace q315 := eq_true q315
             have q315d : (x22_1 < ((l1.length - 1 : Nat) : Int)) = True := by rw [← List.length_drop]; exact q315
             go_wp2
             go_roundg k1
             case measure => have := HK1.out; omega
             case rel => exact ⟨(wrap64 (x10_1 + (rd (l1.drop 1) x22_1))), (wrap64 (x22_1 + 1)), (by first | rfl | (simp; done) | (simp [*]; done)), (by first | rfl | (simp; done) | (simp [*]; done)), H', ⟨by have := HK1.out; omega⟩, ⟨by (with_reducible repeat (first | refine blk_drewN ?_ _ | refine blk_drew ?_ | refine blk_alloc ?_ _)); exact BK313.out⟩, ⟨by repeat (first | (with_reducible first | exact HB.out | apply below_alloc | apply pw_below_drewN | apply below_drew1 | refine below_set ?_ GE313.out) | exact HB.out)⟩⟩
           · rw [if_neg c11] at H
             exact absurd H (by simp)
         · rw [if_neg c10] at H
           exact absurd H (by simp)
       · rw [if_neg c9] at H
         have c9b0 : decide (x22_1 < ((l1.drop 1).length : Int)) = false := decide_eq_false c9
         have c9b0d : decide (x22_1 < ((l1.length - 1 : Nat) : Int)) = false := by rw [← List.length_drop]; exact c9b0
         have c9b0d : decide (x22_1 < ((l1.length - 1 : Nat) : Int)) = false := by rw [← List.length_drop]; exact c9b0
         clear c9
         have H' := Aside0.mk H
         clear H
         have hcz12_0 : wr.cell? ⟨gb313, 0, none⟩ = some (.int .i64 a2_0) := (blk_cell BK313.out 0).trans rfl
         have hcz12_1 : wr.cell? ⟨gb313, 1, none⟩ = some (.int .i64 a2_1) := (blk_cell BK313.out 1).trans rfl
         have hfz12_0 := blk_frozen BK313.out 0
         have hfz12_1 := blk_frozen BK313.out 1
         go_wp2
         go_loopg [8, 9, 13] k1 (fun kq v8 v9 v13 w' => ∃ (x8_2 : List Int) (x9_2 : Int) (x13_2 : Int), v9 = .int .i64 x9_2 ∧ v13 = .int .i64 x13_2 ∧ Aside0 (maskref4_BestRow.l1 kq l0 l1 x8_2 x9_2 x10_1 x13_2 a2_0 a2_1 = some (r1, r2)) ∧ Aside0 (kq ≤ k1) ∧ Aside0 (Kd.R (Kd.int .i64) 3 w' w.heap.size (fun _ => True) v8 x8_2) ∧ Aside0 (w'.heap[gb313]? = some (.cells #[.int .i64 a2_0, .int .i64 a2_1] 62 (0, 0))) ∧ Aside0 (Below w.heap.size w w'))
         case atStart => exact ⟨(([] : List Int)), ((-1)), (a2_0), (by first | rfl | (simp; done) | (simp [*]; done)), (by first | rfl | (simp; done) | (simp [*]; done)), H', ⟨Nat.le_refl _⟩, ⟨by first | exact Kd.R_nil _ _ _ _ _ | exact Kd.N_nil _ _ _ _ _ | exact Kd.V_nil _ _ _ _ _ | exact Kd.Q_nil _ _ _ _ _ | exact Kd.S_nil _ _ _ _ _⟩, ⟨by (with_reducible repeat (first | refine blk_drewN ?_ _ | refine blk_drew ?_ | refine blk_alloc ?_ _)); exact BK313.out⟩, ⟨by repeat (first | (with_reducible first | exact HB.out | apply below_alloc | apply pw_below_drewN | apply below_drew1 | refine below_set ?_ GE313.out) | exact HB.out)⟩⟩
         case round =>
          clear H'
          try clear c1
          try clear p2
          try clear c3
          try clear p3
          try clear q3
          try clear hx3
          try clear c4
          try clear c4b0
          try clear c4b1
          try clear c4b2
          try clear c6
          try clear c6b0
          try clear c6b1
          try clear p6
          try clear c9
          try clear c9b0
          try clear c10
          try clear c10b0
          try clear c11
          try clear c11b0
          try clear hcz12_0
          try clear hcz12_1
          try clear hfz12_0
          try clear hfz12_1
          try clear hx315_0
          try clear p2
          try clear p315
          try clear q315
          obtain ⟨x8_2, x9_2, x13_2, rfl, rfl, HA, HK2, HO_8, BK313, HB⟩ := hrel
          cases gk with
          | zero => exact absurd HA.out (by simp [maskref4_BestRow.l1])
          | succ k2 =>
           have H := HA.out
           clear HA
           simp only [maskref4_BestRow.l1] at H
           by_cases c13 : 0 < (l1.length : Int)
           · rw [if_pos c13] at H
             have c13b0 : decide (0 < (l1.length : Int)) = true := decide_eq_true c13
             have c13b1 : decide (0 < l1.length) = true := decide_eq_true (by omega)
             clear c13
             by_cases c14 : (wrap64 ((wrap64 (x13_2 + (rd l1 0))) + x10_1)) ≤ a2_1
             · rw [if_pos c14] at H
               have c14b0 : decide ((wrap64 ((wrap64 (x13_2 + (rd l1 0))) + x10_1)) ≤ a2_1) = true := decide_eq_true c14
               clear c14
               by_cases c15 : 1 ≤ (l0.length : Int)
               · rw [if_pos c15] at H
                 have c15b0 := eq_true c15
                 have c15b1 : decide (1 ≤ (l0.length : Int)) = true := decide_eq_true c15
                 clear c15
                 by_cases c16 : 1 ≤ (l1.length : Int)
                 · rw [if_pos c16] at H
                   have c16b0 := eq_true c16
                   have c16b1 : decide (1 ≤ (l1.length : Int)) = true := decide_eq_true c16
                   clear c16
                   replace H := Option.bind_eq_some_iff.mp H
                   obtain ⟨⟨t320, t323⟩, A170, H⟩ := H
                   replace H : (if 0 < (l0.length : Int) then (if x9_2 < 0 then ((some (([x13_2] : List Int) : List Int)).bind fun y326 => (if y326.length + t320.length < 17592186044416 then (maskref4_BestRow.l1 k2 l0 l1 (y326 ++ t320) (wrap64 (t323 + (wrap64 ((wrap64 (x13_2 - (rd l0 0))) * (wrap64 (x13_2 - (rd l0 0))))))) x10_1 (wrap64 (x13_2 + 1)) a2_0 a2_1) else (none))) else (if (wrap64 (t323 + (wrap64 ((wrap64 (x13_2 - (rd l0 0))) * (wrap64 (x13_2 - (rd l0 0))))))) < x9_2 then ((some (([x13_2] : List Int) : List Int)).bind fun y332 => (if y332.length + t320.length < 17592186044416 then (maskref4_BestRow.l1 k2 l0 l1 (y332 ++ t320) (wrap64 (t323 + (wrap64 ((wrap64 (x13_2 - (rd l0 0))) * (wrap64 (x13_2 - (rd l0 0))))))) x10_1 (wrap64 (x13_2 + 1)) a2_0 a2_1) else (none))) else (maskref4_BestRow.l1 k2 l0 l1 x8_2 x9_2 x10_1 (wrap64 (x13_2 + 1)) a2_0 a2_1))) else (none)) = some (r1, r2) := H
                   have A17 := Aside0.mk A170
                   clear A170
                   by_cases c18 : 0 < (l0.length : Int)
                   · rw [if_pos c18] at H
                     have c18b0 : decide (0 < (l0.length : Int)) = true := decide_eq_true c18
                     have c18b1 : decide (0 < l0.length) = true := decide_eq_true (by omega)
                     clear c18
                     by_cases c19 : x9_2 < 0
                     · rw [if_pos c19] at H
                       have c19b0 : decide (x9_2 < 0) = true := decide_eq_true c19
                       clear c19
                       obtain ⟨y326, hy326⟩ : ∃ y_ : List Int, y_ = (([x13_2] : List Int)) := ⟨_, rfl⟩
                       replace H : (if y326.length + t320.length < 17592186044416 then (maskref4_BestRow.l1 k2 l0 l1 (y326 ++ t320) (wrap64 (t323 + (wrap64 ((wrap64 (x13_2 - (rd l0 0))) * (wrap64 (x13_2 - (rd l0 0))))))) x10_1 (wrap64 (x13_2 + 1)) a2_0 a2_1) else (none)) = some (r1, r2) := by first | (rw [hy326]; with_reducible exact H) | (have H2_ := (Option.bind_some _ _).symm.trans H; rw [hy326]; with_reducible exact H2_) | (have H2_ := (Option.bind_some _ _).symm.trans H; with_reducible exact H2_) | with_reducible exact H | (rw [hy326]; exact H) | exact H
                       have Ny326 := Aside0.mk hy326
                       clear hy326
                       by_cases c20 : y326.length + t320.length < 17592186044416
                       · rw [if_pos c20] at H
                         have LMc20 := Aside0.mk c20
                         clear c20
                         obtain ⟨y329, hy329⟩ : ∃ y_ : List Int, y_ = (y326 ++ t320) := ⟨_, rfl⟩
                         replace H : (maskref4_BestRow.l1 k2 l0 l1 y329 (wrap64 (t323 + (wrap64 ((wrap64 (x13_2 - (rd l0 0))) * (wrap64 (x13_2 - (rd l0 0))))))) x10_1 (wrap64 (x13_2 + 1)) a2_0 a2_1) = some (r1, r2) := by first | (rw [hy329]; with_reducible exact H) | (have H2_ := (Option.bind_some _ _).symm.trans H; rw [hy329]; with_reducible exact H2_) | (have H2_ := (Option.bind_some _ _).symm.trans H; with_reducible exact H2_) | with_reducible exact H | (rw [hy329]; exact H) | exact H
                         have Ny329 := Aside0.mk hy329
                         clear hy329
                         have H' := Aside0.mk H
                         clear H
                         try go_wp2
                         have n0_ := Aside0.mk (Kd.R_drew HO_8.out)
                         have n1_ := Aside0.mk (blk_drew BK313.out)
                         have n2_ := Aside0.mk (below_drew1 HB.out)
                         clear HO_8
                         clear BK313
                         clear HB
                         have HO_8 := n0_
                         have BK313 := n1_
                         have HB := n2_
                         clear n0_ n1_ n2_
                         have p316 : 0 ≤ (0 : Int) := (by omega)
                         have q316 : 0 < (l1.length : Int) := of_decide_eq_true (by first | (with_reducible assumption) | assumption)
                         obtain ⟨ad316, e316, hx316_0⟩ := Kd.at_int HR1.out 0 p316 q316
                         have hw316_0 := hx316_0
                         (try rw [show ((0 : Int)).toNat = 0 from rfl] at hw316_0)
                         (try rw [show 0 * 1 = 0 from rfl] at hw316_0)
                         (try rw [Addr.add_zero'] at hw316_0)
                         cases e316
                         have qi316 : (0 < l1.length) = True := eq_true (by omega)
                         (try rw [show ((0 : Int)).toNat = 0 from rfl] at hx316_0)
                         (try rw [Addr.add_zero'] at hx316_0)
                         replace hx316_0 := (HB.out.cell (World.block_lt_of_cell? w _ hx316_0)).trans hx316_0
                         replace p316 := eq_true p316
                         replace q316 := eq_true q316
                         refine start_ (n := 10) (S := fun w' => w'.cell? ⟨gb313, 0, none⟩ = some (.int .i64 a2_0) ∧ w'.cell? ⟨gb313, 1, none⟩ = some (.int .i64 a2_1) ∧ w'.cell? ad316 = some (.int .i64 (rd l1 0))) (ds := []) #[false,false,false,false,false,false,false,false,false,false] (by kernel_rfl) rfl rfl ⟨(blk_cell BK313.out 0).trans rfl, (blk_cell BK313.out 1).trans rfl, ((HB.out.cell (World.block_lt_of_cell? w _ hw316_0)).trans hw316_0)⟩ (fun hHeld => ?_); refine with_tabW maskref4_BestRow.tab12 maskref4_BestRow.bits12 (fun HT_ HW_ => ?_)
                         generalize wr.drew = w21 at HO_8 BK313 HB hx316_0 hHeld ⊢
                         refine pure_ (i := 0) (N := some 32) (v := ?_) (a' := ?_) #[true,false,false,false,false,false,false,false,false,false] rfl rfl (any_of HT_.out (by kernel_rfl)) (fun _ _ _ h => h) (Or.inl ⟨by rfl, ?_⟩) ?_ ?_
                         rotate_left; focus (intro w'; go_simp; with_reducible rfl)
                         rotate_left; focus (simp only [Act.put, z1, z2, z3, i64_w, i32_w]; rfl)
                         refine pure_ (i := 1) (N := some 33) (v := ?_) (a' := ?_) #[true,true,false,false,false,false,false,false,false,false] rfl rfl (any_of HT_.out (by kernel_rfl)) (fun _ _ _ h => h) (Or.inl ⟨by rfl, ?_⟩) ?_ ?_
                         rotate_left; focus (intro w'; go_simp; with_reducible rfl)
                         rotate_left; focus (simp only [Act.put, z1, z2, z3, i64_w, i32_w]; rfl)
                         refine pure_ (i := 2) (N := some 34) (v := ?_) (a' := ?_) #[true,true,true,false,false,false,false,false,false,false] rfl rfl (any_of HT_.out (by kernel_rfl)) (fun _ _ _ h => h) (Or.inl ⟨by rfl, ?_⟩) ?_ ?_
                         rotate_left; focus (intro w'; go_simp; with_reducible rfl)
                         rotate_left; focus (simp only [Act.put, z1, z2, z3, i64_w, i32_w]; rfl)
                         refine pure_ (i := 5) (N := some 37) (v := ?_) (a' := ?_) #[true,true,true,false,false,true,false,false,false,false] rfl rfl (any_of HT_.out (by kernel_rfl)) (fun _ _ _ h => h) (Or.inl ⟨by rfl, ?_⟩) ?_ ?_
                         rotate_left; focus (intro w'; go_simp; with_reducible rfl)
                         rotate_left; focus (simp only [Act.put, z1, z2, z3, i64_w, i32_w]; rfl)
                         refine pure_ (i := 7) (N := some 39) (v := ?_) (a' := ?_) #[true,true,true,false,false,true,false,true,false,false] rfl rfl (any_of HT_.out (by kernel_rfl)) (fun _ _ _ h => h) (Or.inl ⟨by rfl, ?_⟩) ?_ ?_
                         rotate_left; focus (intro w'; go_simp; with_reducible rfl)
                         rotate_left; focus (simp only [Act.put, z1, z2, z3, i64_w, i32_w]; rfl)
                         refine take_ (i := 3) (N := some 35) (v := ?_) (a' := ?_) #[true,true,true,true,false,true,false,true,false,false] rfl rfl (take_ofW HT_.out HW_.out (by kernel_rfl)) (fun _ _ _ h => h) (Or.inl ⟨by rfl, ?_⟩) hHeld ?_ ?_
                         rotate_left
                         · rintro w' ⟨s0, s1, s2⟩
                           go_simp
                           with_reducible rfl
                         rotate_left; focus (simp only [Act.put, z1, z2, z3, i64_w, i32_w]; rfl)
                         refine pure_ (i := 4) (N := some 36) (v := ?_) (a' := ?_) #[true,true,true,true,true,true,false,true,false,false] rfl rfl (any_of HT_.out (by kernel_rfl)) (fun _ _ _ h => h) (Or.inl ⟨by rfl, ?_⟩) ?_ ?_
                         rotate_left; focus (intro w'; go_simp; with_reducible rfl)
                         rotate_left; focus (simp only [Act.put, z1, z2, z3, i64_w, i32_w]; rfl)
                         refine pure_ (i := 6) (N := some 38) (v := ?_) (a' := ?_) #[true,true,true,true,true,true,true,true,false,false] rfl rfl (any_of HT_.out (by kernel_rfl)) (fun _ _ _ h => h) (Or.inl ⟨by rfl, ?_⟩) ?_ ?_
                         rotate_left; focus (intro w'; go_simp; with_reducible rfl)
                         rotate_left; focus (simp only [Act.put, z1, z2, z3, i64_w, i32_w]; rfl)
                         refine take_ (i := 8) (N := some 40) (v := ?_) (a' := ?_) #[true,true,true,true,true,true,true,true,true,false] rfl rfl (take_ofW HT_.out HW_.out (by kernel_rfl)) (fun _ _ _ h => h) (Or.inl ⟨by rfl, ?_⟩) hHeld ?_ ?_
                         rotate_left
                         · rintro w' ⟨s0, s1, s2⟩
                           go_simp
                           with_reducible rfl
                         rotate_left; focus (simp only [Act.put, z1, z2, z3, i64_w, i32_w]; rfl)
                         refine pure_ (i := 9) (N := some 41) (v := ?_) (a' := ?_) #[true,true,true,true,true,true,true,true,true,true] rfl rfl (any_of HT_.out (by kernel_rfl)) (fun _ _ _ h => h) (Or.inl ⟨by rfl, ?_⟩) ?_ ?_
                         rotate_left; focus (intro w'; go_simp; with_reducible rfl)
                         rotate_left; focus (simp only [Act.put, z1, z2, z3, i64_w, i32_w]; rfl)
                         refine done_ (done_of HT_.out (by kernel_rfl)) ?_
                         try go_wp2
                         have n0_ := Aside0.mk (Kd.R_drew HO_8.out)
                         have n1_ := Aside0.mk (blk_drew BK313.out)
                         have n2_ := Aside0.mk (below_drew1 HB.out)
                         clear HO_8
                         clear BK313
                         clear HB
                         have HO_8 := n0_
                         have BK313 := n1_
                         have HB := n2_
                         clear n0_ n1_ n2_
                         obtain ⟨i023, hi023, _, hsz23, _⟩ := info_parts info3
                         obtain ⟨A23, hcut23, hA23, hC23⟩ := print_drop_of (P := Try.prog) (Value.int .i64) 0 25 3 .i64 Try.underlying25 hi023 hsz23 A0 c0 l0 1 (by omega) (of_decide_eq_true (by first | (with_reducible assumption) | assumption)) HC0.out
                         have HR317 := Aside0.mk (Kd.C_of_reads (h1 := fun _ => rfl) (hA23 _ (Kd.reads_of_C HR0.out)))
                         have HC317 := Aside0.mk hC23
                         clear hA23 hC23 hi023 hsz23
                         obtain ⟨i024, hi024, _, hsz24, _⟩ := info_parts info3
                         obtain ⟨A24, hcut24, hA24, hC24⟩ := print_drop_of (P := Try.prog) (Value.int .i64) 0 25 3 .i64 Try.underlying25 hi024 hsz24 (some ad316) c1 l1 1 (by omega) (of_decide_eq_true (by first | (with_reducible assumption) | assumption)) HC1.out
                         have HR318 := Aside0.mk (Kd.C_of_reads (h1 := fun _ => rfl) (hA24 _ (Kd.reads_of_C HR1.out)))
                         have HC318 := Aside0.mk hC24
                         clear hA24 hC24 hi024 hsz24
                         first | (have e_ : A24 = A8 := (Value.slice.inj (Result.ok.inj ((hcut8 w).symm.trans (hcut24 w))).1).1.symm; subst e_) | skip
                         have p319 : 0 ≤ (0 : Int) := (by omega)
                         have q319 : 0 < (l1.length : Int) := of_decide_eq_true (by first | (with_reducible assumption) | assumption)
                         obtain ⟨ad319, e319, hx319_0⟩ := Kd.at_int HR1.out 0 p319 q319
                         have hw319_0 := hx319_0
                         (try rw [show ((0 : Int)).toNat = 0 from rfl] at hw319_0)
                         (try rw [show 0 * 1 = 0 from rfl] at hw319_0)
                         (try rw [Addr.add_zero'] at hw319_0)
                         obtain rfl : ad316 = ad319 := (by injection e319)
                         have qi319 : (0 < l1.length) = True := eq_true (by omega)
                         (try rw [show ((0 : Int)).toNat = 0 from rfl] at hx319_0)
                         (try rw [Addr.add_zero'] at hx319_0)
                         replace hx319_0 := (HB.out.cell (World.block_lt_of_cell? w _ hx319_0)).trans hx319_0
                         replace p319 := eq_true p319
                         replace q319 := eq_true q319
                         refine start_ (n := 18) (S := fun w' => w'.cell? ⟨gb313, 0, none⟩ = some (.int .i64 a2_0) ∧ w'.cell? ⟨gb313, 1, none⟩ = some (.int .i64 a2_1) ∧ w'.cell? ad316 = some (.int .i64 (rd l1 0))) (ds := []) #[false,false,false,false,false,false,false,false,false,false,false,false,false,false,false,false,false,false] (by kernel_rfl) rfl rfl ⟨(blk_cell BK313.out 0).trans rfl, (blk_cell BK313.out 1).trans rfl, ((HB.out.cell (World.block_lt_of_cell? w _ hw319_0)).trans hw319_0)⟩ (fun hHeld => ?_); refine with_tabW maskref4_BestRow.tab14 maskref4_BestRow.bits14 (fun HT_ HW_ => ?_)
                         generalize w21.drew = w22 at HO_8 BK313 HB HR317 HR318 hx319_0 hHeld ⊢
                         refine pure_ (i := 0) (N := some 45) (v := ?_) (a' := ?_) #[true,false,false,false,false,false,false,false,false,false,false,false,false,false,false,false,false,false] rfl rfl (any_of HT_.out (by kernel_rfl)) (fun _ _ _ h => h) (Or.inl ⟨by rfl, ?_⟩) ?_ ?_
                         rotate_left; focus (intro w'; go_simp; with_reducible rfl)
                         rotate_left; focus (simp only [Act.put, z1, z2, z3, i64_w, i32_w]; rfl)
                         refine pure_ (i := 1) (N := some 46) (v := ?_) (a' := ?_) #[true,true,false,false,false,false,false,false,false,false,false,false,false,false,false,false,false,false] rfl rfl (any_of HT_.out (by kernel_rfl)) (fun _ _ _ h => h) (Or.inl ⟨by rfl, ?_⟩) ?_ ?_
                         rotate_left; focus (intro w'; go_simp; with_reducible rfl)
                         rotate_left; focus (simp only [Act.put, z1, z2, z3, i64_w, i32_w]; rfl)
                         refine pure_ (i := 2) (N := some 47) (v := ?_) (a' := ?_) #[true,true,true,false,false,false,false,false,false,false,false,false,false,false,false,false,false,false] rfl rfl (any_of HT_.out (by kernel_rfl)) (fun _ _ _ h => h) (Or.inl ⟨by rfl, ?_⟩) ?_ ?_
                         rotate_left; focus (intro w'; go_simp; with_reducible rfl)
                         rotate_left; focus (simp only [Act.put, z1, z2, z3, i64_w, i32_w]; rfl)
                         refine pure_ (i := 3) (N := some 48) (v := ?_) (a' := ?_) #[true,true,true,true,false,false,false,false,false,false,false,false,false,false,false,false,false,false] rfl rfl (any_of HT_.out (by kernel_rfl)) (fun _ _ _ h => h) (Or.inl ⟨by rfl, ?_⟩) ?_ ?_
                         rotate_left; focus (intro w'; go_simp; with_reducible rfl)
                         rotate_left; focus (simp only [Act.put, z1, z2, z3, i64_w, i32_w]; rfl)
                         refine pure_ (i := 4) (N := some 49) (v := ?_) (a' := ?_) #[true,true,true,true,true,false,false,false,false,false,false,false,false,false,false,false,false,false] rfl rfl (any_of HT_.out (by kernel_rfl)) (fun _ _ _ h => h) (Or.inl ⟨by rfl, ?_⟩) ?_ ?_
                         rotate_left; focus (intro w'; go_simp; with_reducible rfl)
                         rotate_left; focus (simp only [Act.put, z1, z2, z3, i64_w, i32_w]; rfl)
                         refine pure_ (i := 5) (N := some 50) (v := ?_) (a' := ?_) #[true,true,true,true,true,true,false,false,false,false,false,false,false,false,false,false,false,false] rfl rfl (any_of HT_.out (by kernel_rfl)) (fun _ _ _ h => h) (Or.inl ⟨by rfl, ?_⟩) ?_ ?_
                         rotate_left; focus (intro w'; go_simp; with_reducible rfl)
                         rotate_left; focus (simp only [Act.put, z1, z2, z3, i64_w, i32_w]; rfl)
                         refine pure_ (i := 6) (N := some 51) (v := ?_) (a' := ?_) #[true,true,true,true,true,true,true,false,false,false,false,false,false,false,false,false,false,false] rfl rfl (any_of HT_.out (by kernel_rfl)) (fun _ _ _ h => h) (Or.inl ⟨by rfl, ?_⟩) ?_ ?_
                         rotate_left; focus (intro w'; go_simp; with_reducible rfl)
                         rotate_left; focus (simp only [Act.put, z1, z2, z3, i64_w, i32_w]; rfl)
                         refine pure_ (i := 9) (N := some 54) (v := ?_) (a' := ?_) #[true,true,true,true,true,true,true,false,false,true,false,false,false,false,false,false,false,false] rfl rfl (any_of HT_.out (by kernel_rfl)) (fun _ _ _ h => h) (Or.inl ⟨by rfl, ?_⟩) ?_ ?_
                         rotate_left; focus (intro w'; go_simp; with_reducible rfl)
                         rotate_left; focus (simp only [Act.put, z1, z2, z3, i64_w, i32_w]; rfl)
                         refine take_ (i := 7) (N := some 52) (v := ?_) (a' := ?_) #[true,true,true,true,true,true,true,true,false,true,false,false,false,false,false,false,false,false] rfl rfl (take_ofW HT_.out HW_.out (by kernel_rfl)) (fun _ _ _ h => h) (Or.inl ⟨by rfl, ?_⟩) hHeld ?_ ?_
                         rotate_left
                         · rintro w' ⟨s0, s1, s2⟩
                           go_simp
                           with_reducible rfl
                         rotate_left; focus (simp only [Act.put, z1, z2, z3, i64_w, i32_w]; rfl)
                         refine pure_ (i := 8) (N := some 53) (v := ?_) (a' := ?_) #[true,true,true,true,true,true,true,true,true,true,false,false,false,false,false,false,false,false] rfl rfl (any_of HT_.out (by kernel_rfl)) (fun _ _ _ h => h) (Or.inl ⟨by rfl, ?_⟩) ?_ ?_
                         rotate_left; focus (intro w'; go_simp; with_reducible rfl)
                         rotate_left; focus (simp only [Act.put, z1, z2, z3, i64_w, i32_w]; rfl)
                         refine take_ (i := 10) (N := some 55) (v := ?_) (a' := ?_) #[true,true,true,true,true,true,true,true,true,true,true,false,false,false,false,false,false,false] rfl rfl (take_ofW HT_.out HW_.out (by kernel_rfl)) (fun _ _ _ h => h) (Or.inl ⟨by rfl, ?_⟩) hHeld ?_ ?_
                         rotate_left
                         · rintro w' ⟨s0, s1, s2⟩
                           go_simp
                           with_reducible rfl
                         rotate_left; focus (simp only [Act.put, z1, z2, z3, i64_w, i32_w]; rfl)
                         refine pure_ (i := 11) (N := some 56) (v := ?_) (a' := ?_) #[true,true,true,true,true,true,true,true,true,true,true,true,false,false,false,false,false,false] rfl rfl (any_of HT_.out (by kernel_rfl)) (fun _ _ _ h => h) (Or.inl ⟨by rfl, ?_⟩) ?_ ?_
                         rotate_left; focus (intro w'; go_simp; with_reducible rfl)
                         rotate_left; focus (simp only [Act.put, z1, z2, z3, i64_w, i32_w]; rfl)
                         refine one_ (i := 12) (N := some 57) #[true,true,true,true,true,true,true,true,true,true,true,true,true,false,false,false,false,false] rfl rfl (one_of HT_.out (by kernel_rfl)) (by decide) (fun K hK => ?_)
                         refine goes_ Try.func34 (by kernel_rfl) rfl #[.slice A23 (l0.drop 1).length (c0 - 1), .slice A24 (l1.drop 1).length (c1 - 1), .agg #[.int .i64 (wrap64 (x13_2 + (rd l1 0))), .int .i64 a2_1]] (by rfl) rfl rfl (by (try simp only [List.map_toArray, List.map_cons, List.map_nil]); first | done | (rw [show (l0.drop 1).length = (l0.length - 1) from List.length_drop] <;> rfl) | (rw [show (l1.drop 1).length = (l1.length - 1) from List.length_drop] <;> rfl) | rfl | (simp only [List.length_drop, List.length_take]; rfl)) ?_
                         with_reducible refine (ih k2 (by have := HK1.out; have := HK2.out; omega) _ _ (l0.drop 1) _ _ (l1.drop 1) (wrap64 (x13_2 + (rd l1 0))) a2_1 t320 t323 _ ?side1 ?side2 ?side3 ?side4 A17.out).mono ?_
                         (case side1 => repeat (first | exact (Kd.C_below HR317.out HB.out) | (with_reducible refine Kd.C_alloc ?_ _) | (with_reducible refine Kd.C_drewN ?_ _) | (with_reducible refine Kd.C_drew ?_)))
                         (case side2 => exact HC317.out)
                         (case side3 => repeat (first | exact (Kd.C_below HR318.out HB.out) | (with_reducible refine Kd.C_alloc ?_ _) | (with_reducible refine Kd.C_drewN ?_ _) | (with_reducible refine Kd.C_drew ?_)))
                         (case side4 => exact HC318.out)
                         rintro e w25 ⟨v321, rfl, ho0, hb⟩
                         refine ⟨_, rfl, ?_⟩
                         have n0_ := Aside0.mk (Kd.R_elder' (by (with_reducible repeat (first | apply Kd.R_alloc | apply Kd.R_drewN | apply Kd.R_drew)); exact HO_8.out) (Kd.R_base ho0) hb)
                         have n1_ := Aside0.mk (Kd.R_lower (Kd.R_new' ho0 (Kd.R_lt (by (with_reducible repeat (first | apply Kd.R_alloc | apply Kd.R_drewN | apply Kd.R_drew)); exact HO_8.out))) (below_size (by repeat (first | (with_reducible first | exact HB.out | apply below_alloc | apply pw_below_drewN | apply below_drew1 | refine below_set ?_ GE313.out) | exact HB.out))))
                         have n2_ := Aside0.mk (blk_below (g := gb313) (o := .cells #[.int .i64 a2_0, .int .i64 a2_1] 62 (0, 0)) (by (with_reducible repeat (first | refine blk_drewN ?_ _ | refine blk_drew ?_ | refine blk_alloc ?_ _)); exact BK313.out) hb)
                         have n3_ := Aside0.mk (below_step (by repeat (first | (with_reducible first | exact HB.out | apply below_alloc | apply pw_below_drewN | apply below_drew1 | refine below_set ?_ GE313.out) | exact HB.out)) hb)
                         clear HO_8
                         clear BK313
                         clear HB
                         have HO_8 := n0_
                         have HO322 := n1_
                         have BK313 := n2_
                         have HB := n3_
                         clear n0_ n1_ n2_ n3_
                         (try clear hb)
                         (try clear hb2)
                         (try clear hk)
                         (try clear hi)
                         (try clear ho0)
                         refine hK.out _ _ ⟨(blk_cell BK313.out 0).trans rfl, (blk_cell BK313.out 1).trans rfl, ((HB.out.cell (World.block_lt_of_cell? w _ hw319_0)).trans hw319_0)⟩ (fun hHeld => ?_)
                         clear hK K
                         refine norm_ (a' := ?_) ?_ ?_
                         rotate_left; focus (show Act.put _ (some 57) _ = _; simp only [Act.put, z1, z2, z3, i64_w, i32_w]; rfl)
                         refine pure_ (i := 13) (N := some 44) (v := ?_) (a' := ?_) #[true,true,true,true,true,true,true,true,true,true,true,true,true,true,false,false,false,false] rfl rfl (any_of HT_.out (by kernel_rfl)) (fun _ _ _ h => h) (Or.inl ⟨by rfl, ?_⟩) ?_ ?_
                         rotate_left; focus (intro w'; go_simp; with_reducible rfl)
                         rotate_left; focus (simp only [Act.put, z1, z2, z3, i64_w, i32_w]; rfl)
                         refine pure_ (i := 14) (N := some 58) (v := ?_) (a' := ?_) #[true,true,true,true,true,true,true,true,true,true,true,true,true,true,true,false,false,false] rfl rfl (any_of HT_.out (by kernel_rfl)) (fun _ _ _ h => h) (Or.inl ⟨by rfl, ?_⟩) ?_ ?_
                         rotate_left; focus (intro w'; go_simp; with_reducible rfl)
                         rotate_left; focus (simp only [Act.put, z1, z2, z3, i64_w, i32_w]; rfl)
                         refine pure_ (i := 15) (N := some 59) (v := ?_) (a' := ?_) #[true,true,true,true,true,true,true,true,true,true,true,true,true,true,true,true,false,false] rfl rfl (any_of HT_.out (by kernel_rfl)) (fun _ _ _ h => h) (Or.inl ⟨by rfl, ?_⟩) ?_ ?_
                         rotate_left; focus (intro w'; go_simp; with_reducible rfl)
                         rotate_left; focus (simp only [Act.put, z1, z2, z3, i64_w, i32_w]; rfl)
                         refine pure_ (i := 16) (N := some 14) (v := ?_) (a' := ?_) #[true,true,true,true,true,true,true,true,true,true,true,true,true,true,true,true,true,false] rfl rfl (any_of HT_.out (by kernel_rfl)) (fun _ _ _ h => h) (Or.inl ⟨by rfl, ?_⟩) ?_ ?_
                         rotate_left; focus (intro w'; go_simp; with_reducible rfl)
                         rotate_left; focus (simp only [Act.put, z1, z2, z3, i64_w, i32_w]; rfl)
                         refine pure_ (i := 17) (N := some 15) (v := ?_) (a' := ?_) #[true,true,true,true,true,true,true,true,true,true,true,true,true,true,true,true,true,true] rfl rfl (any_of HT_.out (by kernel_rfl)) (fun _ _ _ h => h) (Or.inl ⟨by rfl, ?_⟩) ?_ ?_
                         rotate_left; focus (intro w'; go_simp; with_reducible rfl)
                         rotate_left; focus (simp only [Act.put, z1, z2, z3, i64_w, i32_w]; rfl)
                         refine done_ (done_of HT_.out (by kernel_rfl)) ?_
                         try go_wp2
                         have n0_ := Aside0.mk (Kd.R_drew HO_8.out)
                         have n1_ := Aside0.mk (Kd.R_drew HO322.out)
                         have n2_ := Aside0.mk (blk_drew BK313.out)
                         have n3_ := Aside0.mk (below_drew1 HB.out)
                         clear HO_8
                         clear HO322
                         clear BK313
                         clear HB
                         have HO_8 := n0_
                         have HO322 := n1_
                         have BK313 := n2_
                         have HB := n3_
                         clear n0_ n1_ n2_ n3_
                         have p324 : 0 ≤ (0 : Int) := (by omega)
                         have q324 : 0 < (l0.length : Int) := of_decide_eq_true (by first | (with_reducible assumption) | assumption)
                         obtain ⟨ad324, e324, hx324_0⟩ := Kd.at_int HR0.out 0 p324 q324
                         have hw324_0 := hx324_0
                         (try rw [show ((0 : Int)).toNat = 0 from rfl] at hw324_0)
                         (try rw [show 0 * 1 = 0 from rfl] at hw324_0)
                         (try rw [Addr.add_zero'] at hw324_0)
                         cases e324
                         have qi324 : (0 < l0.length) = True := eq_true (by omega)
                         (try rw [show ((0 : Int)).toNat = 0 from rfl] at hx324_0)
                         (try rw [Addr.add_zero'] at hx324_0)
                         replace hx324_0 := (HB.out.cell (World.block_lt_of_cell? w _ hx324_0)).trans hx324_0
                         replace p324 := eq_true p324
                         replace q324 := eq_true q324
                         have p325 : 0 ≤ (0 : Int) := (by omega)
                         have q325 : 0 < (l0.length : Int) := of_decide_eq_true (by first | (with_reducible assumption) | assumption)
                         obtain ⟨ad325, e325, hx325_0⟩ := Kd.at_int HR0.out 0 p325 q325
                         have hw325_0 := hx325_0
                         (try rw [show ((0 : Int)).toNat = 0 from rfl] at hw325_0)
                         (try rw [show 0 * 1 = 0 from rfl] at hw325_0)
                         (try rw [Addr.add_zero'] at hw325_0)
                         obtain rfl : ad324 = ad325 := (by injection e325)
                         have qi325 : (0 < l0.length) = True := eq_true (by omega)
                         (try rw [show ((0 : Int)).toNat = 0 from rfl] at hx325_0)
                         (try rw [Addr.add_zero'] at hx325_0)
                         replace hx325_0 := (HB.out.cell (World.block_lt_of_cell? w _ hx325_0)).trans hx325_0
                         replace p325 := eq_true p325
                         replace q325 := eq_true q325
                         refine start_ (n := 14) (S := fun w' => w'.cell? ad324 = some (.int .i64 (rd l0 0)) ∧ w'.cell? ad324 = some (.int .i64 (rd l0 0))) (ds := []) #[false,false,false,false,false,false,false,false,false,false,false,false,false,false] (by kernel_rfl) rfl rfl ⟨((HB.out.cell (World.block_lt_of_cell? w _ hw324_0)).trans hw324_0), ((HB.out.cell (World.block_lt_of_cell? w _ hw325_0)).trans hw325_0)⟩ (fun hHeld => ?_); refine with_tabW maskref4_BestRow.tab15 maskref4_BestRow.bits15 (fun HT_ HW_ => ?_)
                         generalize w25.drew = w26 at HO_8 HO322 BK313 HB hx324_0 hx325_0 hHeld ⊢
                         refine pure_ (i := 0) (N := some 60) (v := ?_) (a' := ?_) #[true,false,false,false,false,false,false,false,false,false,false,false,false,false] rfl rfl (any_of HT_.out (by kernel_rfl)) (fun _ _ _ h => h) (Or.inl ⟨by rfl, ?_⟩) ?_ ?_
                         rotate_left; focus (intro w'; go_simp; with_reducible rfl)
                         rotate_left; focus (simp only [Act.put, z1, z2, z3, i64_w, i32_w]; rfl)
                         refine pure_ (i := 1) (N := some 61) (v := ?_) (a' := ?_) #[true,true,false,false,false,false,false,false,false,false,false,false,false,false] rfl rfl (any_of HT_.out (by kernel_rfl)) (fun _ _ _ h => h) (Or.inl ⟨by rfl, ?_⟩) ?_ ?_
                         rotate_left; focus (intro w'; go_simp; with_reducible rfl)
                         rotate_left; focus (simp only [Act.put, z1, z2, z3, i64_w, i32_w]; rfl)
                         refine pure_ (i := 2) (N := some 62) (v := ?_) (a' := ?_) #[true,true,true,false,false,false,false,false,false,false,false,false,false,false] rfl rfl (any_of HT_.out (by kernel_rfl)) (fun _ _ _ h => h) (Or.inl ⟨by rfl, ?_⟩) ?_ ?_
                         rotate_left; focus (intro w'; go_simp; with_reducible rfl)
                         rotate_left; focus (simp only [Act.put, z1, z2, z3, i64_w, i32_w]; rfl)
                         refine pure_ (i := 3) (N := some 63) (v := ?_) (a' := ?_) #[true,true,true,true,false,false,false,false,false,false,false,false,false,false] rfl rfl (any_of HT_.out (by kernel_rfl)) (fun _ _ _ h => h) (Or.inl ⟨by rfl, ?_⟩) ?_ ?_
                         rotate_left; focus (intro w'; go_simp; with_reducible rfl)
                         rotate_left; focus (simp only [Act.put, z1, z2, z3, i64_w, i32_w]; rfl)
                         refine pure_ (i := 6) (N := some 66) (v := ?_) (a' := ?_) #[true,true,true,true,false,false,true,false,false,false,false,false,false,false] rfl rfl (any_of HT_.out (by kernel_rfl)) (fun _ _ _ h => h) (Or.inl ⟨by rfl, ?_⟩) ?_ ?_
                         rotate_left; focus (intro w'; go_simp; with_reducible rfl)
                         rotate_left; focus (simp only [Act.put, z1, z2, z3, i64_w, i32_w]; rfl)
                         refine pure_ (i := 7) (N := some 67) (v := ?_) (a' := ?_) #[true,true,true,true,false,false,true,true,false,false,false,false,false,false] rfl rfl (any_of HT_.out (by kernel_rfl)) (fun _ _ _ h => h) (Or.inl ⟨by rfl, ?_⟩) ?_ ?_
                         rotate_left; focus (intro w'; go_simp; with_reducible rfl)
                         rotate_left; focus (simp only [Act.put, z1, z2, z3, i64_w, i32_w]; rfl)
                         refine pure_ (i := 8) (N := some 68) (v := ?_) (a' := ?_) #[true,true,true,true,false,false,true,true,true,false,false,false,false,false] rfl rfl (any_of HT_.out (by kernel_rfl)) (fun _ _ _ h => h) (Or.inl ⟨by rfl, ?_⟩) ?_ ?_
                         rotate_left; focus (intro w'; go_simp; with_reducible rfl)
                         rotate_left; focus (simp only [Act.put, z1, z2, z3, i64_w, i32_w]; rfl)
                         refine take_ (i := 4) (N := some 64) (v := ?_) (a' := ?_) #[true,true,true,true,true,false,true,true,true,false,false,false,false,false] rfl rfl (take_ofW HT_.out HW_.out (by kernel_rfl)) (fun _ _ _ h => h) (Or.inl ⟨by rfl, ?_⟩) hHeld ?_ ?_
                         rotate_left
                         · rintro w' ⟨s0, s1⟩
                           go_simp
                           with_reducible rfl
                         rotate_left; focus (simp only [Act.put, z1, z2, z3, i64_w, i32_w]; rfl)
                         refine pure_ (i := 5) (N := some 65) (v := ?_) (a' := ?_) #[true,true,true,true,true,true,true,true,true,false,false,false,false,false] rfl rfl (any_of HT_.out (by kernel_rfl)) (fun _ _ _ h => h) (Or.inl ⟨by rfl, ?_⟩) ?_ ?_
                         rotate_left; focus (intro w'; go_simp; with_reducible rfl)
                         rotate_left; focus (simp only [Act.put, z1, z2, z3, i64_w, i32_w]; rfl)
                         refine take_ (i := 9) (N := some 69) (v := ?_) (a' := ?_) #[true,true,true,true,true,true,true,true,true,true,false,false,false,false] rfl rfl (take_ofW HT_.out HW_.out (by kernel_rfl)) (fun _ _ _ h => h) (Or.inl ⟨by rfl, ?_⟩) hHeld ?_ ?_
                         rotate_left
                         · rintro w' ⟨s0, s1⟩
                           go_simp
                           with_reducible rfl
                         rotate_left; focus (simp only [Act.put, z1, z2, z3, i64_w, i32_w]; rfl)
                         refine pure_ (i := 10) (N := some 70) (v := ?_) (a' := ?_) #[true,true,true,true,true,true,true,true,true,true,true,false,false,false] rfl rfl (any_of HT_.out (by kernel_rfl)) (fun _ _ _ h => h) (Or.inl ⟨by rfl, ?_⟩) ?_ ?_
                         rotate_left; focus (intro w'; go_simp; with_reducible rfl)
                         rotate_left; focus (simp only [Act.put, z1, z2, z3, i64_w, i32_w]; rfl)
                         refine pure_ (i := 11) (N := some 71) (v := ?_) (a' := ?_) #[true,true,true,true,true,true,true,true,true,true,true,true,false,false] rfl rfl (any_of HT_.out (by kernel_rfl)) (fun _ _ _ h => h) (Or.inl ⟨by rfl, ?_⟩) ?_ ?_
                         rotate_left; focus (intro w'; go_simp; with_reducible rfl)
                         rotate_left; focus (simp only [Act.put, z1, z2, z3, i64_w, i32_w]; rfl)
                         refine pure_ (i := 12) (N := some 72) (v := ?_) (a' := ?_) #[true,true,true,true,true,true,true,true,true,true,true,true,true,false] rfl rfl (any_of HT_.out (by kernel_rfl)) (fun _ _ _ h => h) (Or.inl ⟨by rfl, ?_⟩) ?_ ?_
                         rotate_left; focus (intro w'; go_simp; with_reducible rfl)
                         rotate_left; focus (simp only [Act.put, z1, z2, z3, i64_w, i32_w]; rfl)
                         refine pure_ (i := 13) (N := some 15) (v := ?_) (a' := ?_) #[true,true,true,true,true,true,true,true,true,true,true,true,true,true] rfl rfl (any_of HT_.out (by kernel_rfl)) (fun _ _ _ h => h) (Or.inl ⟨by rfl, ?_⟩) ?_ ?_
                         rotate_left; focus (intro w'; go_simp; with_reducible rfl)
                         rotate_left; focus (simp only [Act.put, z1, z2, z3, i64_w, i32_w]; rfl)
                         refine done_ (done_of HT_.out (by kernel_rfl)) ?_
                         try go_wp2_with (first | ((with_reducible refine gate_dst (N := 81) rfl ?_); refine Kd.R_lit (Kd.int .i64) _ 3 ?hg (N := 81) ?hd (xs := ([x13_2] : List Int)) (inner := [.int .i64 x13_2]) (ok := fun _ => True) (okp := fun _ => True) ?hr ?hp (fun _ hk => hk) trivial (Below.refl _ _) (Nat.le_refl _) (by simp) ?_; (case hd => rfl); (case hg => rfl); (case hr => first | (go_simp; done) | (go_simp; rfl)); (case hp => exact (Reps.one (show Kd.M (Kd.int .i64) _ _ _ x13_2 [.int .i64 x13_2] from rfl) (Reps.none _ _))); intro v327 w27 ho28 hb hg_ hnew_; clear hg_ hnew_; (first | rw [← Ny326.out] at ho28 | (simp only [Int.reduceToNat] at ho28; rw [← Ny326.out] at ho28)); have n0_ := Aside0.mk (Kd.R_elder' (by (with_reducible repeat (first | apply Kd.R_alloc | apply Kd.R_drewN | apply Kd.R_drew)); exact HO_8.out) (Kd.R_base ho28) hb); have n1_ := Aside0.mk (Kd.R_elder' (by (with_reducible repeat (first | apply Kd.R_alloc | apply Kd.R_drewN | apply Kd.R_drew)); exact HO322.out) (Kd.R_base ho28) hb); have n2_ := Aside0.mk (Kd.R_lower (Kd.R_new' (Kd.R_new' ho28 (Kd.R_lt (by (with_reducible repeat (first | apply Kd.R_alloc | apply Kd.R_drewN | apply Kd.R_drew)); exact HO_8.out))) (Kd.R_lt (by (with_reducible repeat (first | apply Kd.R_alloc | apply Kd.R_drewN | apply Kd.R_drew)); exact HO322.out))) (below_size (by repeat (first | (with_reducible first | exact HB.out | apply below_alloc | apply pw_below_drewN | apply below_drew1 | refine below_set ?_ GE313.out) | exact HB.out)))); have n3_ := Aside0.mk (blk_below (g := gb313) (o := .cells #[.int .i64 a2_0, .int .i64 a2_1] 62 (0, 0)) (by (with_reducible repeat (first | refine blk_drewN ?_ _ | refine blk_drew ?_ | refine blk_alloc ?_ _)); exact BK313.out) hb); have n4_ := Aside0.mk (below_step (by repeat (first | (with_reducible first | exact HB.out | apply below_alloc | apply pw_below_drewN | apply below_drew1 | refine below_set ?_ GE313.out) | exact HB.out)) hb); clear HO_8; clear HO322; clear BK313; clear HB; have HO_8 := n0_; have HO322 := n1_; have HO328 := n2_; have BK313 := n3_; have HB := n4_; clear n0_ n1_ n2_ n3_ n4_; clear hb ho28; obtain ⟨Ao30, co30, eo30⟩ := Kd.R_slice HO322.out; subst eo30) | ((with_reducible refine gate_builtin (b := .append) (xs := #[.tmp 81, .tmp 82]) rfl ?_); at_builtin; refine Kd.R_append_rows (Kd.int .i64) (w0 := w) w.heap.size rfl (.tmp 81) (.tmp 82) 25 3 (.int .i64 0) 8 rfl Try.underlying25 info3 rfl (by decide) (by omega) v327 y326 t320 _ _ _ (fun k_ => some k_ ≠ (u8 : Value).ownBlock ∧ some k_ ≠ (.slice Ao30 t320.length co30 : Value).ownBlock) (fun _ => False) rfl rfl ?aO ?aR (fun _ _ h => h) (fun _ h => h.elim) ?aF ?aB ?aS ?aL ?_; (case aR => repeat (first | exact (Kd.R_reads' HO322.out).2.2 | (with_reducible refine Kd.C_alloc ?_ _) | (with_reducible refine Kd.C_drewN ?_ _) | (with_reducible refine Kd.C_drew ?_))); (case aB => exact (by repeat (first | (with_reducible first | exact HB.out | apply below_alloc | apply pw_below_drewN | apply below_drew1 | refine below_set ?_ GE313.out) | exact HB.out))); (case aF => exact (fun k_ hk => ⟨Kd.fresh' (Kd.R_lt (by (with_reducible repeat (first | apply Kd.R_alloc | apply Kd.R_drewN | apply Kd.R_drew)); exact HO_8.out)) k_ hk, Kd.fresh' (Kd.R_lt (by (with_reducible repeat (first | apply Kd.R_alloc | apply Kd.R_drewN | apply Kd.R_drew)); exact HO322.out)) k_ hk⟩)); (case aO => exact (by (with_reducible repeat (first | apply Kd.R_alloc | apply Kd.R_drewN | apply Kd.R_drew)); exact Kd.R_mono HO328.out (fun _ hk => ⟨hk.1.2, hk.2⟩))); (case aS => exact (below_size (by repeat (first | (with_reducible first | exact HB.out | apply below_alloc | apply pw_below_drewN | apply below_drew1 | refine below_set ?_ GE313.out) | exact HB.out)))); (case aL => have := LMc20.out; omega); intro v330 w29 ho hb hg hat; rw [← Ny329.out] at ho; have n0_ := Aside0.mk (Kd.R_after (ok := (fun k_ => some k_ ≠ (.slice Ao30 t320.length co30 : Value).ownBlock)) (by (with_reducible repeat (first | apply Kd.R_alloc | apply Kd.R_drewN | apply Kd.R_drew)); exact Kd.R_mono HO_8.out (fun _ hk => ⟨hk.1.2, hk.2⟩)) hg hat); have n1_ := Aside0.mk (blk_grown (g := gb313) (o := .cells #[.int .i64 a2_0, .int .i64 a2_1] 62 (0, 0)) (by (with_reducible repeat (first | refine blk_drewN ?_ _ | refine blk_drew ?_ | refine blk_alloc ?_ _)); exact BK313.out) hg (Kd.R_ne HO328.out BK313.out (by decide))); have n2_ := Aside0.mk (Kd.R_after (ok := (fun k_ => some k_ ≠ (u8 : Value).ownBlock)) (by (with_reducible repeat (first | apply Kd.R_alloc | apply Kd.R_drewN | apply Kd.R_drew)); exact Kd.R_mono HO322.out (fun _ hk => ⟨hk.1.2, hk.2⟩)) hg hat); have n3_ := Aside0.mk (hb); have n4_ := Aside0.mk (ho); clear HO_8; clear BK313; clear HO322; clear HB; clear HO328; have HO_8 := n0_; have BK313 := n1_; have HO322 := n2_; have HB := n3_; have HO331 := n4_; clear n0_ n1_ n2_ n3_ n4_; clear ho hb hg hat))
                         go_roundg k2
                         case measure => have := HK1.out; have := HK2.out; omega
                         case rel => exact ⟨(y329), (wrap64 (t323 + (wrap64 ((wrap64 (x13_2 - (rd l0 0))) * (wrap64 (x13_2 - (rd l0 0))))))), (wrap64 (x13_2 + 1)), (by first | rfl | (simp; done) | (simp [*]; done)), (by first | rfl | (simp; done) | (simp [*]; done)), H', ⟨by have := HK1.out; have := HK2.out; omega⟩, ⟨by (with_reducible repeat (first | apply Kd.R_alloc | apply Kd.R_drewN | apply Kd.R_drew)); exact Kd.R_mono HO331.out (fun _ hk => trivial)⟩, ⟨by (with_reducible repeat (first | refine blk_drewN ?_ _ | refine blk_drew ?_ | refine blk_alloc ?_ _)); exact BK313.out⟩, ⟨by repeat (first | (with_reducible first | exact HB.out | apply below_alloc | apply pw_below_drewN | apply below_drew1 | refine below_set ?_ GE313.out) | exact HB.out)⟩⟩
                       · rw [if_neg c20] at H
                         exact absurd H (by simp)
                     · rw [if_neg c19] at H
                       have c19b0 : decide (x9_2 < 0) = false := decide_eq_false c19
                       clear c19
                       by_cases c31 : (wrap64 (t323 + (wrap64 ((wrap64 (x13_2 - (rd l0 0))) * (wrap64 (x13_2 - (rd l0 0))))))) < x9_2
                       · rw [if_pos c31] at H
                         have c31b0 : decide ((wrap64 (t323 + (wrap64 ((wrap64 (x13_2 - (rd l0 0))) * (wrap64 (x13_2 - (rd l0 0))))))) < x9_2) = true := decide_eq_true c31
                         clear c31
                         obtain ⟨y332, hy332⟩ : ∃ y_ : List Int, y_ = (([x13_2] : List Int)) := ⟨_, rfl⟩
                         replace H : (if y332.length + t320.length < 17592186044416 then (maskref4_BestRow.l1 k2 l0 l1 (y332 ++ t320) (wrap64 (t323 + (wrap64 ((wrap64 (x13_2 - (rd l0 0))) * (wrap64 (x13_2 - (rd l0 0))))))) x10_1 (wrap64 (x13_2 + 1)) a2_0 a2_1) else (none)) = some (r1, r2) := by first | (rw [hy332]; with_reducible exact H) | (have H2_ := (Option.bind_some _ _).symm.trans H; rw [hy332]; with_reducible exact H2_) | (have H2_ := (Option.bind_some _ _).symm.trans H; with_reducible exact H2_) | with_reducible exact H | (rw [hy332]; exact H) | exact H
                         have Ny332 := Aside0.mk hy332
                         clear hy332
                         by_cases c32 : y332.length + t320.length < 17592186044416
                         · rw [if_pos c32] at H
                           have LMc32 := Aside0.mk c32
                           clear c32
                           obtain ⟨y335, hy335⟩ : ∃ y_ : List Int, y_ = (y332 ++ t320) := ⟨_, rfl⟩
                           replace H : (maskref4_BestRow.l1 k2 l0 l1 y335 (wrap64 (t323 + (wrap64 ((wrap64 (x13_2 - (rd l0 0))) * (wrap64 (x13_2 - (rd l0 0))))))) x10_1 (wrap64 (x13_2 + 1)) a2_0 a2_1) = some (r1, r2) := by first | (rw [hy335]; with_reducible exact H) | (have H2_ := (Option.bind_some _ _).symm.trans H; rw [hy335]; with_reducible exact H2_) | (have H2_ := (Option.bind_some _ _).symm.trans H; with_reducible exact H2_) | with_reducible exact H | (rw [hy335]; exact H) | exact H
                           have Ny335 := Aside0.mk hy335
                           clear hy335
                           have H' := Aside0.mk H
                           clear H
                           try go_wp2
                           have n0_ := Aside0.mk (Kd.R_drew HO_8.out)
                           have n1_ := Aside0.mk (blk_drew BK313.out)
                           have n2_ := Aside0.mk (below_drew1 HB.out)
                           clear HO_8
                           clear BK313
                           clear HB
                           have HO_8 := n0_
                           have BK313 := n1_
                           have HB := n2_
                           clear n0_ n1_ n2_
                           have p316 : 0 ≤ (0 : Int) := (by omega)
                           have q316 : 0 < (l1.length : Int) := of_decide_eq_true (by first | (with_reducible assumption) | assumption)
                           obtain ⟨ad316, e316, hx316_0⟩ := Kd.at_int HR1.out 0 p316 q316
                           have hw316_0 := hx316_0
                           (try rw [show ((0 : Int)).toNat = 0 from rfl] at hw316_0)
                           (try rw [show 0 * 1 = 0 from rfl] at hw316_0)
                           (try rw [Addr.add_zero'] at hw316_0)
                           cases e316
                           have qi316 : (0 < l1.length) = True := eq_true (by omega)
                           (try rw [show ((0 : Int)).toNat = 0 from rfl] at hx316_0)
                           (try rw [Addr.add_zero'] at hx316_0)
                           replace hx316_0 := (HB.out.cell (World.block_lt_of_cell? w _ hx316_0)).trans hx316_0
                           replace p316 := eq_true p316
                           replace q316 := eq_true q316
                           refine start_ (n := 10) (S := fun w' => w'.cell? ⟨gb313, 0, none⟩ = some (.int .i64 a2_0) ∧ w'.cell? ⟨gb313, 1, none⟩ = some (.int .i64 a2_1) ∧ w'.cell? ad316 = some (.int .i64 (rd l1 0))) (ds := []) #[false,false,false,false,false,false,false,false,false,false] (by kernel_rfl) rfl rfl ⟨(blk_cell BK313.out 0).trans rfl, (blk_cell BK313.out 1).trans rfl, ((HB.out.cell (World.block_lt_of_cell? w _ hw316_0)).trans hw316_0)⟩ (fun hHeld => ?_); refine with_tabW maskref4_BestRow.tab12 maskref4_BestRow.bits12 (fun HT_ HW_ => ?_)
                           generalize wr.drew = w33 at HO_8 BK313 HB hx316_0 hHeld ⊢
                           refine pure_ (i := 0) (N := some 32) (v := ?_) (a' := ?_) #[true,false,false,false,false,false,false,false,false,false] rfl rfl (any_of HT_.out (by kernel_rfl)) (fun _ _ _ h => h) (Or.inl ⟨by rfl, ?_⟩) ?_ ?_
                           rotate_left; focus (intro w'; go_simp; with_reducible rfl)
                           rotate_left; focus (simp only [Act.put, z1, z2, z3, i64_w, i32_w]; rfl)
                           refine pure_ (i := 1) (N := some 33) (v := ?_) (a' := ?_) #[true,true,false,false,false,false,false,false,false,false] rfl rfl (any_of HT_.out (by kernel_rfl)) (fun _ _ _ h => h) (Or.inl ⟨by rfl, ?_⟩) ?_ ?_
                           rotate_left; focus (intro w'; go_simp; with_reducible rfl)
                           rotate_left; focus (simp only [Act.put, z1, z2, z3, i64_w, i32_w]; rfl)
                           refine pure_ (i := 2) (N := some 34) (v := ?_) (a' := ?_) #[true,true,true,false,false,false,false,false,false,false] rfl rfl (any_of HT_.out (by kernel_rfl)) (fun _ _ _ h => h) (Or.inl ⟨by rfl, ?_⟩) ?_ ?_
                           rotate_left; focus (intro w'; go_simp; with_reducible rfl)
                           rotate_left; focus (simp only [Act.put, z1, z2, z3, i64_w, i32_w]; rfl)
                           refine pure_ (i := 5) (N := some 37) (v := ?_) (a' := ?_) #[true,true,true,false,false,true,false,false,false,false] rfl rfl (any_of HT_.out (by kernel_rfl)) (fun _ _ _ h => h) (Or.inl ⟨by rfl, ?_⟩) ?_ ?_
                           rotate_left; focus (intro w'; go_simp; with_reducible rfl)
                           rotate_left; focus (simp only [Act.put, z1, z2, z3, i64_w, i32_w]; rfl)
                           refine pure_ (i := 7) (N := some 39) (v := ?_) (a' := ?_) #[true,true,true,false,false,true,false,true,false,false] rfl rfl (any_of HT_.out (by kernel_rfl)) (fun _ _ _ h => h) (Or.inl ⟨by rfl, ?_⟩) ?_ ?_
                           rotate_left; focus (intro w'; go_simp; with_reducible rfl)
                           rotate_left; focus (simp only [Act.put, z1, z2, z3, i64_w, i32_w]; rfl)
                           refine take_ (i := 3) (N := some 35) (v := ?_) (a' := ?_) #[true,true,true,true,false,true,false,true,false,false] rfl rfl (take_ofW HT_.out HW_.out (by kernel_rfl)) (fun _ _ _ h => h) (Or.inl ⟨by rfl, ?_⟩) hHeld ?_ ?_
                           rotate_left
                           · rintro w' ⟨s0, s1, s2⟩
                             go_simp
                             with_reducible rfl
                           rotate_left; focus (simp only [Act.put, z1, z2, z3, i64_w, i32_w]; rfl)
                           refine pure_ (i := 4) (N := some 36) (v := ?_) (a' := ?_) #[true,true,true,true,true,true,false,true,false,false] rfl rfl (any_of HT_.out (by kernel_rfl)) (fun _ _ _ h => h) (Or.inl ⟨by rfl, ?_⟩) ?_ ?_
                           rotate_left; focus (intro w'; go_simp; with_reducible rfl)
                           rotate_left; focus (simp only [Act.put, z1, z2, z3, i64_w, i32_w]; rfl)
                           refine pure_ (i := 6) (N := some 38) (v := ?_) (a' := ?_) #[true,true,true,true,true,true,true,true,false,false] rfl rfl (any_of HT_.out (by kernel_rfl)) (fun _ _ _ h => h) (Or.inl ⟨by rfl, ?_⟩) ?_ ?_
                           rotate_left; focus (intro w'; go_simp; with_reducible rfl)
                           rotate_left; focus (simp only [Act.put, z1, z2, z3, i64_w, i32_w]; rfl)
                           refine take_ (i := 8) (N := some 40) (v := ?_) (a' := ?_) #[true,true,true,true,true,true,true,true,true,false] rfl rfl (take_ofW HT_.out HW_.out (by kernel_rfl)) (fun _ _ _ h => h) (Or.inl ⟨by rfl, ?_⟩) hHeld ?_ ?_
                           rotate_left
                           · rintro w' ⟨s0, s1, s2⟩
                             go_simp
                             with_reducible rfl
                           rotate_left; focus (simp only [Act.put, z1, z2, z3, i64_w, i32_w]; rfl)
                           refine pure_ (i := 9) (N := some 41) (v := ?_) (a' := ?_) #[true,true,true,true,true,true,true,true,true,true] rfl rfl (any_of HT_.out (by kernel_rfl)) (fun _ _ _ h => h) (Or.inl ⟨by rfl, ?_⟩) ?_ ?_
                           rotate_left; focus (intro w'; go_simp; with_reducible rfl)
                           rotate_left; focus (simp only [Act.put, z1, z2, z3, i64_w, i32_w]; rfl)
                           refine done_ (done_of HT_.out (by kernel_rfl)) ?_
                           try go_wp2
                           have n0_ := Aside0.mk (Kd.R_drew HO_8.out)
                           have n1_ := Aside0.mk (blk_drew BK313.out)
                           have n2_ := Aside0.mk (below_drew1 HB.out)
                           clear HO_8
                           clear BK313
                           clear HB
                           have HO_8 := n0_
                           have BK313 := n1_
                           have HB := n2_
                           clear n0_ n1_ n2_
                           obtain ⟨i035, hi035, _, hsz35, _⟩ := info_parts info3
                           obtain ⟨A35, hcut35, hA35, hC35⟩ := print_drop_of (P := Try.prog) (Value.int .i64) 0 25 3 .i64 Try.underlying25 hi035 hsz35 A0 c0 l0 1 (by omega) (of_decide_eq_true (by first | (with_reducible assumption) | assumption)) HC0.out
                           have HR317 := Aside0.mk (Kd.C_of_reads (h1 := fun _ => rfl) (hA35 _ (Kd.reads_of_C HR0.out)))
                           have HC317 := Aside0.mk hC35
                           clear hA35 hC35 hi035 hsz35
                           first | (have e_ : A35 = A23 := (Value.slice.inj (Result.ok.inj ((hcut23 w).symm.trans (hcut35 w))).1).1.symm; subst e_) | skip
                           obtain ⟨i036, hi036, _, hsz36, _⟩ := info_parts info3
                           obtain ⟨A36, hcut36, hA36, hC36⟩ := print_drop_of (P := Try.prog) (Value.int .i64) 0 25 3 .i64 Try.underlying25 hi036 hsz36 (some ad316) c1 l1 1 (by omega) (of_decide_eq_true (by first | (with_reducible assumption) | assumption)) HC1.out
                           have HR318 := Aside0.mk (Kd.C_of_reads (h1 := fun _ => rfl) (hA36 _ (Kd.reads_of_C HR1.out)))
                           have HC318 := Aside0.mk hC36
                           clear hA36 hC36 hi036 hsz36
                           first | (have e_ : A36 = A8 := (Value.slice.inj (Result.ok.inj ((hcut8 w).symm.trans (hcut36 w))).1).1.symm; subst e_) | skip
                           first | (have e_ : A36 = A24 := (Value.slice.inj (Result.ok.inj ((hcut24 w).symm.trans (hcut36 w))).1).1.symm; subst e_) | skip
                           have p319 : 0 ≤ (0 : Int) := (by omega)
                           have q319 : 0 < (l1.length : Int) := of_decide_eq_true (by first | (with_reducible assumption) | assumption)
                           obtain ⟨ad319, e319, hx319_0⟩ := Kd.at_int HR1.out 0 p319 q319
                           have hw319_0 := hx319_0
                           (try rw [show ((0 : Int)).toNat = 0 from rfl] at hw319_0)
                           (try rw [show 0 * 1 = 0 from rfl] at hw319_0)
                           (try rw [Addr.add_zero'] at hw319_0)
                           obtain rfl : ad316 = ad319 := (by injection e319)
                           have qi319 : (0 < l1.length) = True := eq_true (by omega)
                           (try rw [show ((0 : Int)).toNat = 0 from rfl] at hx319_0)
                           (try rw [Addr.add_zero'] at hx319_0)
                           replace hx319_0 := (HB.out.cell (World.block_lt_of_cell? w _ hx319_0)).trans hx319_0
                           replace p319 := eq_true p319
                           replace q319 := eq_true q319
                           refine start_ (n := 18) (S := fun w' => w'.cell? ⟨gb313, 0, none⟩ = some (.int .i64 a2_0) ∧ w'.cell? ⟨gb313, 1, none⟩ = some (.int .i64 a2_1) ∧ w'.cell? ad316 = some (.int .i64 (rd l1 0))) (ds := []) #[false,false,false,false,false,false,false,false,false,false,false,false,false,false,false,false,false,false] (by kernel_rfl) rfl rfl ⟨(blk_cell BK313.out 0).trans rfl, (blk_cell BK313.out 1).trans rfl, ((HB.out.cell (World.block_lt_of_cell? w _ hw319_0)).trans hw319_0)⟩ (fun hHeld => ?_); refine with_tabW maskref4_BestRow.tab14 maskref4_BestRow.bits14 (fun HT_ HW_ => ?_)
                           generalize w33.drew = w34 at HO_8 BK313 HB HR317 HR318 hx319_0 hHeld ⊢
                           refine pure_ (i := 0) (N := some 45) (v := ?_) (a' := ?_) #[true,false,false,false,false,false,false,false,false,false,false,false,false,false,false,false,false,false] rfl rfl (any_of HT_.out (by kernel_rfl)) (fun _ _ _ h => h) (Or.inl ⟨by rfl, ?_⟩) ?_ ?_
                           rotate_left; focus (intro w'; go_simp; with_reducible rfl)
                           rotate_left; focus (simp only [Act.put, z1, z2, z3, i64_w, i32_w]; rfl)
                           refine pure_ (i := 1) (N := some 46) (v := ?_) (a' := ?_) #[true,true,false,false,false,false,false,false,false,false,false,false,false,false,false,false,false,false] rfl rfl (any_of HT_.out (by kernel_rfl)) (fun _ _ _ h => h) (Or.inl ⟨by rfl, ?_⟩) ?_ ?_
                           rotate_left; focus (intro w'; go_simp; with_reducible rfl)
                           rotate_left; focus (simp only [Act.put, z1, z2, z3, i64_w, i32_w]; rfl)
                           refine pure_ (i := 2) (N := some 47) (v := ?_) (a' := ?_) #[true,true,true,false,false,false,false,false,false,false,false,false,false,false,false,false,false,false] rfl rfl (any_of HT_.out (by kernel_rfl)) (fun _ _ _ h => h) (Or.inl ⟨by rfl, ?_⟩) ?_ ?_
                           rotate_left; focus (intro w'; go_simp; with_reducible rfl)
                           rotate_left; focus (simp only [Act.put, z1, z2, z3, i64_w, i32_w]; rfl)
                           refine pure_ (i := 3) (N := some 48) (v := ?_) (a' := ?_) #[true,true,true,true,false,false,false,false,false,false,false,false,false,false,false,false,false,false] rfl rfl (any_of HT_.out (by kernel_rfl)) (fun _ _ _ h => h) (Or.inl ⟨by rfl, ?_⟩) ?_ ?_
                           rotate_left; focus (intro w'; go_simp; with_reducible rfl)
                           rotate_left; focus (simp only [Act.put, z1, z2, z3, i64_w, i32_w]; rfl)
                           refine pure_ (i := 4) (N := some 49) (v := ?_) (a' := ?_) #[true,true,true,true,true,false,false,false,false,false,false,false,false,false,false,false,false,false] rfl rfl (any_of HT_.out (by kernel_rfl)) (fun _ _ _ h => h) (Or.inl ⟨by rfl, ?_⟩) ?_ ?_
                           rotate_left; focus (intro w'; go_simp; with_reducible rfl)
                           rotate_left; focus (simp only [Act.put, z1, z2, z3, i64_w, i32_w]; rfl)
                           refine pure_ (i := 5) (N := some 50) (v := ?_) (a' := ?_) #[true,true,true,true,true,true,false,false,false,false,false,false,false,false,false,false,false,false] rfl rfl (any_of HT_.out (by kernel_rfl)) (fun _ _ _ h => h) (Or.inl ⟨by rfl, ?_⟩) ?_ ?_
                           rotate_left; focus (intro w'; go_simp; with_reducible rfl)
                           rotate_left; focus (simp only [Act.put, z1, z2, z3, i64_w, i32_w]; rfl)
                           refine pure_ (i := 6) (N := some 51) (v := ?_) (a' := ?_) #[true,true,true,true,true,true,true,false,false,false,false,false,false,false,false,false,false,false] rfl rfl (any_of HT_.out (by kernel_rfl)) (fun _ _ _ h => h) (Or.inl ⟨by rfl, ?_⟩) ?_ ?_
                           rotate_left; focus (intro w'; go_simp; with_reducible rfl)
                           rotate_left; focus (simp only [Act.put, z1, z2, z3, i64_w, i32_w]; rfl)
                           refine pure_ (i := 9) (N := some 54) (v := ?_) (a' := ?_) #[true,true,true,true,true,true,true,false,false,true,false,false,false,false,false,false,false,false] rfl rfl (any_of HT_.out (by kernel_rfl)) (fun _ _ _ h => h) (Or.inl ⟨by rfl, ?_⟩) ?_ ?_
                           rotate_left; focus (intro w'; go_simp; with_reducible rfl)
                           rotate_left; focus (simp only [Act.put, z1, z2, z3, i64_w, i32_w]; rfl)
                           refine take_ (i := 7) (N := some 52) (v := ?_) (a' := ?_) #[true,true,true,true,true,true,true,true,false,true,false,false,false,false,false,false,false,false] rfl rfl (take_ofW HT_.out HW_.out (by kernel_rfl)) (fun _ _ _ h => h) (Or.inl ⟨by rfl, ?_⟩) hHeld ?_ ?_
                           rotate_left
                           · rintro w' ⟨s0, s1, s2⟩
                             go_simp
                             with_reducible rfl
                           rotate_left; focus (simp only [Act.put, z1, z2, z3, i64_w, i32_w]; rfl)
                           refine pure_ (i := 8) (N := some 53) (v := ?_) (a' := ?_) #[true,true,true,true,true,true,true,true,true,true,false,false,false,false,false,false,false,false] rfl rfl (any_of HT_.out (by kernel_rfl)) (fun _ _ _ h => h) (Or.inl ⟨by rfl, ?_⟩) ?_ ?_
                           rotate_left; focus (intro w'; go_simp; with_reducible rfl)
                           rotate_left; focus (simp only [Act.put, z1, z2, z3, i64_w, i32_w]; rfl)
                           refine take_ (i := 10) (N := some 55) (v := ?_) (a' := ?_) #[true,true,true,true,true,true,true,true,true,true,true,false,false,false,false,false,false,false] rfl rfl (take_ofW HT_.out HW_.out (by kernel_rfl)) (fun _ _ _ h => h) (Or.inl ⟨by rfl, ?_⟩) hHeld ?_ ?_
                           rotate_left
                           · rintro w' ⟨s0, s1, s2⟩
                             go_simp
                             with_reducible rfl
                           rotate_left; focus (simp only [Act.put, z1, z2, z3, i64_w, i32_w]; rfl)
                           refine pure_ (i := 11) (N := some 56) (v := ?_) (a' := ?_) #[true,true,true,true,true,true,true,true,true,true,true,true,false,false,false,false,false,false] rfl rfl (any_of HT_.out (by kernel_rfl)) (fun _ _ _ h => h) (Or.inl ⟨by rfl, ?_⟩) ?_ ?_
                           rotate_left; focus (intro w'; go_simp; with_reducible rfl)
                           rotate_left; focus (simp only [Act.put, z1, z2, z3, i64_w, i32_w]; rfl)
                           refine one_ (i := 12) (N := some 57) #[true,true,true,true,true,true,true,true,true,true,true,true,true,false,false,false,false,false] rfl rfl (one_of HT_.out (by kernel_rfl)) (by decide) (fun K hK => ?_)
                           refine goes_ Try.func34 (by kernel_rfl) rfl #[.slice A35 (l0.drop 1).length (c0 - 1), .slice A36 (l1.drop 1).length (c1 - 1), .agg #[.int .i64 (wrap64 (x13_2 + (rd l1 0))), .int .i64 a2_1]] (by rfl) rfl rfl (by (try simp only [List.map_toArray, List.map_cons, List.map_nil]); first | done | (rw [show (l0.drop 1).length = (l0.length - 1) from List.length_drop] <;> rfl) | (rw [show (l1.drop 1).length = (l1.length - 1) from List.length_drop] <;> rfl) | rfl | (simp only [List.length_drop, List.length_take]; rfl)) ?_
                           with_reducible refine (ih k2 (by have := HK1.out; have := HK2.out; omega) _ _ (l0.drop 1) _ _ (l1.drop 1) (wrap64 (x13_2 + (rd l1 0))) a2_1 t320 t323 _ ?side1 ?side2 ?side3 ?side4 A17.out).mono ?_
                           (case side1 => repeat (first | exact (Kd.C_below HR317.out HB.out) | (with_reducible refine Kd.C_alloc ?_ _) | (with_reducible refine Kd.C_drewN ?_ _) | (with_reducible refine Kd.C_drew ?_)))
                           (case side2 => exact HC317.out)
                           (case side3 => repeat (first | exact (Kd.C_below HR318.out HB.out) | (with_reducible refine Kd.C_alloc ?_ _) | (with_reducible refine Kd.C_drewN ?_ _) | (with_reducible refine Kd.C_drew ?_)))
                           (case side4 => exact HC318.out)
                           rintro e w37 ⟨v321, rfl, ho0, hb⟩
                           refine ⟨_, rfl, ?_⟩
                           have n0_ := Aside0.mk (Kd.R_elder' (by (with_reducible repeat (first | apply Kd.R_alloc | apply Kd.R_drewN | apply Kd.R_drew)); exact HO_8.out) (Kd.R_base ho0) hb)
                           have n1_ := Aside0.mk (Kd.R_lower (Kd.R_new' ho0 (Kd.R_lt (by (with_reducible repeat (first | apply Kd.R_alloc | apply Kd.R_drewN | apply Kd.R_drew)); exact HO_8.out))) (below_size (by repeat (first | (with_reducible first | exact HB.out | apply below_alloc | apply pw_below_drewN | apply below_drew1 | refine below_set ?_ GE313.out) | exact HB.out))))
                           have n2_ := Aside0.mk (blk_below (g := gb313) (o := .cells #[.int .i64 a2_0, .int .i64 a2_1] 62 (0, 0)) (by (with_reducible repeat (first | refine blk_drewN ?_ _ | refine blk_drew ?_ | refine blk_alloc ?_ _)); exact BK313.out) hb)
                           have n3_ := Aside0.mk (below_step (by repeat (first | (with_reducible first | exact HB.out | apply below_alloc | apply pw_below_drewN | apply below_drew1 | refine below_set ?_ GE313.out) | exact HB.out)) hb)
                           clear HO_8
                           clear BK313
                           clear HB
                           have HO_8 := n0_
                           have HO322 := n1_
                           have BK313 := n2_
                           have HB := n3_
                           clear n0_ n1_ n2_ n3_
                           (try clear hb)
                           (try clear hb2)
                           (try clear hk)
                           (try clear hi)
                           (try clear ho0)
                           refine hK.out _ _ ⟨(blk_cell BK313.out 0).trans rfl, (blk_cell BK313.out 1).trans rfl, ((HB.out.cell (World.block_lt_of_cell? w _ hw319_0)).trans hw319_0)⟩ (fun hHeld => ?_)
                           clear hK K
                           refine norm_ (a' := ?_) ?_ ?_
                           rotate_left; focus (show Act.put _ (some 57) _ = _; simp only [Act.put, z1, z2, z3, i64_w, i32_w]; rfl)
                           refine pure_ (i := 13) (N := some 44) (v := ?_) (a' := ?_) #[true,true,true,true,true,true,true,true,true,true,true,true,true,true,false,false,false,false] rfl rfl (any_of HT_.out (by kernel_rfl)) (fun _ _ _ h => h) (Or.inl ⟨by rfl, ?_⟩) ?_ ?_
                           rotate_left; focus (intro w'; go_simp; with_reducible rfl)
                           rotate_left; focus (simp only [Act.put, z1, z2, z3, i64_w, i32_w]; rfl)
                           refine pure_ (i := 14) (N := some 58) (v := ?_) (a' := ?_) #[true,true,true,true,true,true,true,true,true,true,true,true,true,true,true,false,false,false] rfl rfl (any_of HT_.out (by kernel_rfl)) (fun _ _ _ h => h) (Or.inl ⟨by rfl, ?_⟩) ?_ ?_
                           rotate_left; focus (intro w'; go_simp; with_reducible rfl)
                           rotate_left; focus (simp only [Act.put, z1, z2, z3, i64_w, i32_w]; rfl)
                           refine pure_ (i := 15) (N := some 59) (v := ?_) (a' := ?_) #[true,true,true,true,true,true,true,true,true,true,true,true,true,true,true,true,false,false] rfl rfl (any_of HT_.out (by kernel_rfl)) (fun _ _ _ h => h) (Or.inl ⟨by rfl, ?_⟩) ?_ ?_
                           rotate_left; focus (intro w'; go_simp; with_reducible rfl)
                           rotate_left; focus (simp only [Act.put, z1, z2, z3, i64_w, i32_w]; rfl)
                           refine pure_ (i := 16) (N := some 14) (v := ?_) (a' := ?_) #[true,true,true,true,true,true,true,true,true,true,true,true,true,true,true,true,true,false] rfl rfl (any_of HT_.out (by kernel_rfl)) (fun _ _ _ h => h) (Or.inl ⟨by rfl, ?_⟩) ?_ ?_
                           rotate_left; focus (intro w'; go_simp; with_reducible rfl)
                           rotate_left; focus (simp only [Act.put, z1, z2, z3, i64_w, i32_w]; rfl)
                           refine pure_ (i := 17) (N := some 15) (v := ?_) (a' := ?_) #[true,true,true,true,true,true,true,true,true,true,true,true,true,true,true,true,true,true] rfl rfl (any_of HT_.out (by kernel_rfl)) (fun _ _ _ h => h) (Or.inl ⟨by rfl, ?_⟩) ?_ ?_
                           rotate_left; focus (intro w'; go_simp; with_reducible rfl)
                           rotate_left; focus (simp only [Act.put, z1, z2, z3, i64_w, i32_w]; rfl)
                           refine done_ (done_of HT_.out (by kernel_rfl)) ?_
                           try go_wp2
                           have n0_ := Aside0.mk (Kd.R_drew HO_8.out)
                           have n1_ := Aside0.mk (Kd.R_drew HO322.out)
                           have n2_ := Aside0.mk (blk_drew BK313.out)
                           have n3_ := Aside0.mk (below_drew1 HB.out)
                           clear HO_8
                           clear HO322
                           clear BK313
                           clear HB
                           have HO_8 := n0_
                           have HO322 := n1_
                           have BK313 := n2_
                           have HB := n3_
                           clear n0_ n1_ n2_ n3_
                           have p324 : 0 ≤ (0 : Int) := (by omega)
                           have q324 : 0 < (l0.length : Int) := of_decide_eq_true (by first | (with_reducible assumption) | assumption)
                           obtain ⟨ad324, e324, hx324_0⟩ := Kd.at_int HR0.out 0 p324 q324
                           have hw324_0 := hx324_0
                           (try rw [show ((0 : Int)).toNat = 0 from rfl] at hw324_0)
                           (try rw [show 0 * 1 = 0 from rfl] at hw324_0)
                           (try rw [Addr.add_zero'] at hw324_0)
                           cases e324
                           have qi324 : (0 < l0.length) = True := eq_true (by omega)
                           (try rw [show ((0 : Int)).toNat = 0 from rfl] at hx324_0)
                           (try rw [Addr.add_zero'] at hx324_0)
                           replace hx324_0 := (HB.out.cell (World.block_lt_of_cell? w _ hx324_0)).trans hx324_0
                           replace p324 := eq_true p324
                           replace q324 := eq_true q324
                           have p325 : 0 ≤ (0 : Int) := (by omega)
                           have q325 : 0 < (l0.length : Int) := of_decide_eq_true (by first | (with_reducible assumption) | assumption)
                           obtain ⟨ad325, e325, hx325_0⟩ := Kd.at_int HR0.out 0 p325 q325
                           have hw325_0 := hx325_0
                           (try rw [show ((0 : Int)).toNat = 0 from rfl] at hw325_0)
                           (try rw [show 0 * 1 = 0 from rfl] at hw325_0)
                           (try rw [Addr.add_zero'] at hw325_0)
                           obtain rfl : ad324 = ad325 := (by injection e325)
                           have qi325 : (0 < l0.length) = True := eq_true (by omega)
                           (try rw [show ((0 : Int)).toNat = 0 from rfl] at hx325_0)
                           (try rw [Addr.add_zero'] at hx325_0)
                           replace hx325_0 := (HB.out.cell (World.block_lt_of_cell? w _ hx325_0)).trans hx325_0
                           replace p325 := eq_true p325
                           replace q325 := eq_true q325
                           refine start_ (n := 14) (S := fun w' => w'.cell? ad324 = some (.int .i64 (rd l0 0)) ∧ w'.cell? ad324 = some (.int .i64 (rd l0 0))) (ds := []) #[false,false,false,false,false,false,false,false,false,false,false,false,false,false] (by kernel_rfl) rfl rfl ⟨((HB.out.cell (World.block_lt_of_cell? w _ hw324_0)).trans hw324_0), ((HB.out.cell (World.block_lt_of_cell? w _ hw325_0)).trans hw325_0)⟩ (fun hHeld => ?_); refine with_tabW maskref4_BestRow.tab15 maskref4_BestRow.bits15 (fun HT_ HW_ => ?_)
                           generalize w37.drew = w38 at HO_8 HO322 BK313 HB hx324_0 hx325_0 hHeld ⊢
                           refine pure_ (i := 0) (N := some 60) (v := ?_) (a' := ?_) #[true,false,false,false,false,false,false,false,false,false,false,false,false,false] rfl rfl (any_of HT_.out (by kernel_rfl)) (fun _ _ _ h => h) (Or.inl ⟨by rfl, ?_⟩) ?_ ?_
                           rotate_left; focus (intro w'; go_simp; with_reducible rfl)
                           rotate_left; focus (simp only [Act.put, z1, z2, z3, i64_w, i32_w]; rfl)
                           refine pure_ (i := 1) (N := some 61) (v := ?_) (a' := ?_) #[true,true,false,false,false,false,false,false,false,false,false,false,false,false] rfl rfl (any_of HT_.out (by kernel_rfl)) (fun _ _ _ h => h) (Or.inl ⟨by rfl, ?_⟩) ?_ ?_
                           rotate_left; focus (intro w'; go_simp; with_reducible rfl)
                           rotate_left; focus (simp only [Act.put, z1, z2, z3, i64_w, i32_w]; rfl)
                           refine pure_ (i := 2) (N := some 62) (v := ?_) (a' := ?_) #[true,true,true,false,false,false,false,false,false,false,false,false,false,false] rfl rfl (any_of HT_.out (by kernel_rfl)) (fun _ _ _ h => h) (Or.inl ⟨by rfl, ?_⟩) ?_ ?_
                           rotate_left; focus (intro w'; go_simp; with_reducible rfl)
                           rotate_left; focus (simp only [Act.put, z1, z2, z3, i64_w, i32_w]; rfl)
                           refine pure_ (i := 3) (N := some 63) (v := ?_) (a' := ?_) #[true,true,true,true,false,false,false,false,false,false,false,false,false,false] rfl rfl (any_of HT_.out (by kernel_rfl)) (fun _ _ _ h => h) (Or.inl ⟨by rfl, ?_⟩) ?_ ?_
                           rotate_left; focus (intro w'; go_simp; with_reducible rfl)
                           rotate_left; focus (simp only [Act.put, z1, z2, z3, i64_w, i32_w]; rfl)
                           refine pure_ (i := 6) (N := some 66) (v := ?_) (a' := ?_) #[true,true,true,true,false,false,true,false,false,false,false,false,false,false] rfl rfl (any_of HT_.out (by kernel_rfl)) (fun _ _ _ h => h) (Or.inl ⟨by rfl, ?_⟩) ?_ ?_
                           rotate_left; focus (intro w'; go_simp; with_reducible rfl)
                           rotate_left; focus (simp only [Act.put, z1, z2, z3, i64_w, i32_w]; rfl)
                           refine pure_ (i := 7) (N := some 67) (v := ?_) (a' := ?_) #[true,true,true,true,false,false,true,true,false,false,false,false,false,false] rfl rfl (any_of HT_.out (by kernel_rfl)) (fun _ _ _ h => h) (Or.inl ⟨by rfl, ?_⟩) ?_ ?_
                           rotate_left; focus (intro w'; go_simp; with_reducible rfl)
                           rotate_left; focus (simp only [Act.put, z1, z2, z3, i64_w, i32_w]; rfl)
                           refine pure_ (i := 8) (N := some 68) (v := ?_) (a' := ?_) #[true,true,true,true,false,false,true,true,true,false,false,false,false,false] rfl rfl (any_of HT_.out (by kernel_rfl)) (fun _ _ _ h => h) (Or.inl ⟨by rfl, ?_⟩) ?_ ?_
                           rotate_left; focus (intro w'; go_simp; with_reducible rfl)
                           rotate_left; focus (simp only [Act.put, z1, z2, z3, i64_w, i32_w]; rfl)
                           refine take_ (i := 4) (N := some 64) (v := ?_) (a' := ?_) #[true,true,true,true,true,false,true,true,true,false,false,false,false,false] rfl rfl (take_ofW HT_.out HW_.out (by kernel_rfl)) (fun _ _ _ h => h) (Or.inl ⟨by rfl, ?_⟩) hHeld ?_ ?_
                           rotate_left
                           · rintro w' ⟨s0, s1⟩
                             go_simp
                             with_reducible rfl
                           rotate_left; focus (simp only [Act.put, z1, z2, z3, i64_w, i32_w]; rfl)
                           refine pure_ (i := 5) (N := some 65) (v := ?_) (a' := ?_) #[true,true,true,true,true,true,true,true,true,false,false,false,false,false] rfl rfl (any_of HT_.out (by kernel_rfl)) (fun _ _ _ h => h) (Or.inl ⟨by rfl, ?_⟩) ?_ ?_
                           rotate_left; focus (intro w'; go_simp; with_reducible rfl)
                           rotate_left; focus (simp only [Act.put, z1, z2, z3, i64_w, i32_w]; rfl)
                           refine take_ (i := 9) (N := some 69) (v := ?_) (a' := ?_) #[true,true,true,true,true,true,true,true,true,true,false,false,false,false] rfl rfl (take_ofW HT_.out HW_.out (by kernel_rfl)) (fun _ _ _ h => h) (Or.inl ⟨by rfl, ?_⟩) hHeld ?_ ?_
                           rotate_left
                           · rintro w' ⟨s0, s1⟩
                             go_simp
                             with_reducible rfl
                           rotate_left; focus (simp only [Act.put, z1, z2, z3, i64_w, i32_w]; rfl)
                           refine pure_ (i := 10) (N := some 70) (v := ?_) (a' := ?_) #[true,true,true,true,true,true,true,true,true,true,true,false,false,false] rfl rfl (any_of HT_.out (by kernel_rfl)) (fun _ _ _ h => h) (Or.inl ⟨by rfl, ?_⟩) ?_ ?_
                           rotate_left; focus (intro w'; go_simp; with_reducible rfl)
                           rotate_left; focus (simp only [Act.put, z1, z2, z3, i64_w, i32_w]; rfl)
                           refine pure_ (i := 11) (N := some 71) (v := ?_) (a' := ?_) #[true,true,true,true,true,true,true,true,true,true,true,true,false,false] rfl rfl (any_of HT_.out (by kernel_rfl)) (fun _ _ _ h => h) (Or.inl ⟨by rfl, ?_⟩) ?_ ?_
                           rotate_left; focus (intro w'; go_simp; with_reducible rfl)
                           rotate_left; focus (simp only [Act.put, z1, z2, z3, i64_w, i32_w]; rfl)
                           refine pure_ (i := 12) (N := some 72) (v := ?_) (a' := ?_) #[true,true,true,true,true,true,true,true,true,true,true,true,true,false] rfl rfl (any_of HT_.out (by kernel_rfl)) (fun _ _ _ h => h) (Or.inl ⟨by rfl, ?_⟩) ?_ ?_
                           rotate_left; focus (intro w'; go_simp; with_reducible rfl)
                           rotate_left; focus (simp only [Act.put, z1, z2, z3, i64_w, i32_w]; rfl)
                           refine pure_ (i := 13) (N := some 15) (v := ?_) (a' := ?_) #[true,true,true,true,true,true,true,true,true,true,true,true,true,true] rfl rfl (any_of HT_.out (by kernel_rfl)) (fun _ _ _ h => h) (Or.inl ⟨by rfl, ?_⟩) ?_ ?_
                           rotate_left; focus (intro w'; go_simp; with_reducible rfl)
                           rotate_left; focus (simp only [Act.put, z1, z2, z3, i64_w, i32_w]; rfl)
                           refine done_ (done_of HT_.out (by kernel_rfl)) ?_
                           try go_wp2_with (first | ((with_reducible refine gate_dst (N := 81) rfl ?_); refine Kd.R_lit (Kd.int .i64) _ 3 ?hg (N := 81) ?hd (xs := ([x13_2] : List Int)) (inner := [.int .i64 x13_2]) (ok := fun _ => True) (okp := fun _ => True) ?hr ?hp (fun _ hk => hk) trivial (Below.refl _ _) (Nat.le_refl _) (by simp) ?_; (case hd => rfl); (case hg => rfl); (case hr => first | (go_simp; done) | (go_simp; rfl)); (case hp => exact (Reps.one (show Kd.M (Kd.int .i64) _ _ _ x13_2 [.int .i64 x13_2] from rfl) (Reps.none _ _))); intro v333 w39 ho40 hb hg_ hnew_; clear hg_ hnew_; (first | rw [← Ny332.out] at ho40 | (simp only [Int.reduceToNat] at ho40; rw [← Ny332.out] at ho40)); have n0_ := Aside0.mk (Kd.R_elder' (by (with_reducible repeat (first | apply Kd.R_alloc | apply Kd.R_drewN | apply Kd.R_drew)); exact HO_8.out) (Kd.R_base ho40) hb); have n1_ := Aside0.mk (Kd.R_elder' (by (with_reducible repeat (first | apply Kd.R_alloc | apply Kd.R_drewN | apply Kd.R_drew)); exact HO322.out) (Kd.R_base ho40) hb); have n2_ := Aside0.mk (Kd.R_lower (Kd.R_new' (Kd.R_new' ho40 (Kd.R_lt (by (with_reducible repeat (first | apply Kd.R_alloc | apply Kd.R_drewN | apply Kd.R_drew)); exact HO_8.out))) (Kd.R_lt (by (with_reducible repeat (first | apply Kd.R_alloc | apply Kd.R_drewN | apply Kd.R_drew)); exact HO322.out))) (below_size (by repeat (first | (with_reducible first | exact HB.out | apply below_alloc | apply pw_below_drewN | apply below_drew1 | refine below_set ?_ GE313.out) | exact HB.out)))); have n3_ := Aside0.mk (blk_below (g := gb313) (o := .cells #[.int .i64 a2_0, .int .i64 a2_1] 62 (0, 0)) (by (with_reducible repeat (first | refine blk_drewN ?_ _ | refine blk_drew ?_ | refine blk_alloc ?_ _)); exact BK313.out) hb); have n4_ := Aside0.mk (below_step (by repeat (first | (with_reducible first | exact HB.out | apply below_alloc | apply pw_below_drewN | apply below_drew1 | refine below_set ?_ GE313.out) | exact HB.out)) hb); clear HO_8; clear HO322; clear BK313; clear HB; have HO_8 := n0_; have HO322 := n1_; have HO334 := n2_; have BK313 := n3_; have HB := n4_; clear n0_ n1_ n2_ n3_ n4_; clear hb ho40; obtain ⟨Ao42, co42, eo42⟩ := Kd.R_slice HO322.out; subst eo42) | ((with_reducible refine gate_builtin (b := .append) (xs := #[.tmp 81, .tmp 82]) rfl ?_); at_builtin; refine Kd.R_append_rows (Kd.int .i64) (w0 := w) w.heap.size rfl (.tmp 81) (.tmp 82) 25 3 (.int .i64 0) 8 rfl Try.underlying25 info3 rfl (by decide) (by omega) v333 y332 t320 _ _ _ (fun k_ => some k_ ≠ (u8 : Value).ownBlock ∧ some k_ ≠ (.slice Ao42 t320.length co42 : Value).ownBlock) (fun _ => False) rfl rfl ?aO ?aR (fun _ _ h => h) (fun _ h => h.elim) ?aF ?aB ?aS ?aL ?_; (case aR => repeat (first | exact (Kd.R_reads' HO322.out).2.2 | (with_reducible refine Kd.C_alloc ?_ _) | (with_reducible refine Kd.C_drewN ?_ _) | (with_reducible refine Kd.C_drew ?_))); (case aB => exact (by repeat (first | (with_reducible first | exact HB.out | apply below_alloc | apply pw_below_drewN | apply below_drew1 | refine below_set ?_ GE313.out) | exact HB.out))); (case aF => exact (fun k_ hk => ⟨Kd.fresh' (Kd.R_lt (by (with_reducible repeat (first | apply Kd.R_alloc | apply Kd.R_drewN | apply Kd.R_drew)); exact HO_8.out)) k_ hk, Kd.fresh' (Kd.R_lt (by (with_reducible repeat (first | apply Kd.R_alloc | apply Kd.R_drewN | apply Kd.R_drew)); exact HO322.out)) k_ hk⟩)); (case aO => exact (by (with_reducible repeat (first | apply Kd.R_alloc | apply Kd.R_drewN | apply Kd.R_drew)); exact Kd.R_mono HO334.out (fun _ hk => ⟨hk.1.2, hk.2⟩))); (case aS => exact (below_size (by repeat (first | (with_reducible first | exact HB.out | apply below_alloc | apply pw_below_drewN | apply below_drew1 | refine below_set ?_ GE313.out) | exact HB.out)))); (case aL => have := LMc32.out; omega); intro v336 w41 ho hb hg hat; rw [← Ny335.out] at ho; have n0_ := Aside0.mk (Kd.R_after (ok := (fun k_ => some k_ ≠ (.slice Ao42 t320.length co42 : Value).ownBlock)) (by (with_reducible repeat (first | apply Kd.R_alloc | apply Kd.R_drewN | apply Kd.R_drew)); exact Kd.R_mono HO_8.out (fun _ hk => ⟨hk.1.2, hk.2⟩)) hg hat); have n1_ := Aside0.mk (blk_grown (g := gb313) (o := .cells #[.int .i64 a2_0, .int .i64 a2_1] 62 (0, 0)) (by (with_reducible repeat (first | refine blk_drewN ?_ _ | refine blk_drew ?_ | refine blk_alloc ?_ _)); exact BK313.out) hg (Kd.R_ne HO334.out BK313.out (by decide))); have n2_ := Aside0.mk (Kd.R_after (ok := (fun k_ => some k_ ≠ (u8 : Value).ownBlock)) (by (with_reducible repeat (first | apply Kd.R_alloc | apply Kd.R_drewN | apply Kd.R_drew)); exact Kd.R_mono HO322.out (fun _ hk => ⟨hk.1.2, hk.2⟩)) hg hat); have n3_ := Aside0.mk (hb); have n4_ := Aside0.mk (ho); clear HO_8; clear BK313; clear HO322; clear HB; clear HO334; have HO_8 := n0_; have BK313 := n1_; have HO322 := n2_; have HB := n3_; have HO337 := n4_; clear n0_ n1_ n2_ n3_ n4_; clear ho hb hg hat))
                           go_roundg k2
                           case measure => have := HK1.out; have := HK2.out; omega
                           case rel => exact ⟨(y335), (wrap64 (t323 + (wrap64 ((wrap64 (x13_2 - (rd l0 0))) * (wrap64 (x13_2 - (rd l0 0))))))), (wrap64 (x13_2 + 1)), (by first | rfl | (simp; done) | (simp [*]; done)), (by first | rfl | (simp; done) | (simp [*]; done)), H', ⟨by have := HK1.out; have := HK2.out; omega⟩, ⟨by (with_reducible repeat (first | apply Kd.R_alloc | apply Kd.R_drewN | apply Kd.R_drew)); exact Kd.R_mono HO337.out (fun _ hk => trivial)⟩, ⟨by (with_reducible repeat (first | refine blk_drewN ?_ _ | refine blk_drew ?_ | refine blk_alloc ?_ _)); exact BK313.out⟩, ⟨by repeat (first | (with_reducible first | exact HB.out | apply below_alloc | apply pw_below_drewN | apply below_drew1 | refine below_set ?_ GE313.out) | exact HB.out)⟩⟩
                         · rw [if_neg c32] at H
                           exact absurd H (by simp)
                       · rw [if_neg c31] at H
                         have c31b0 : decide ((wrap64 (t323 + (wrap64 ((wrap64 (x13_2 - (rd l0 0))) * (wrap64 (x13_2 - (rd l0 0))))))) < x9_2) = false := decide_eq_false c31
                         clear c31
                         have H' := Aside0.mk H
                         clear H
                         try go_wp2
                         have n0_ := Aside0.mk (Kd.R_drew HO_8.out)
                         have n1_ := Aside0.mk (blk_drew BK313.out)
                         have n2_ := Aside0.mk (below_drew1 HB.out)
                         clear HO_8
                         clear BK313
                         clear HB
                         have HO_8 := n0_
                         have BK313 := n1_
                         have HB := n2_
                         clear n0_ n1_ n2_
                         have p316 : 0 ≤ (0 : Int) := (by omega)
                         have q316 : 0 < (l1.length : Int) := of_decide_eq_true (by first | (with_reducible assumption) | assumption)
                         obtain ⟨ad316, e316, hx316_0⟩ := Kd.at_int HR1.out 0 p316 q316
                         have hw316_0 := hx316_0
                         (try rw [show ((0 : Int)).toNat = 0 from rfl] at hw316_0)
                         (try rw [show 0 * 1 = 0 from rfl] at hw316_0)
                         (try rw [Addr.add_zero'] at hw316_0)
                         cases e316
                         have qi316 : (0 < l1.length) = True := eq_true (by omega)
                         (try rw [show ((0 : Int)).toNat = 0 from rfl] at hx316_0)
                         (try rw [Addr.add_zero'] at hx316_0)
                         replace hx316_0 := (HB.out.cell (World.block_lt_of_cell? w _ hx316_0)).trans hx316_0
                         replace p316 := eq_true p316
                         replace q316 := eq_true q316
                         refine start_ (n := 10) (S := fun w' => w'.cell? ⟨gb313, 0, none⟩ = some (.int .i64 a2_0) ∧ w'.cell? ⟨gb313, 1, none⟩ = some (.int .i64 a2_1) ∧ w'.cell? ad316 = some (.int .i64 (rd l1 0))) (ds := []) #[false,false,false,false,false,false,false,false,false,false] (by kernel_rfl) rfl rfl ⟨(blk_cell BK313.out 0).trans rfl, (blk_cell BK313.out 1).trans rfl, ((HB.out.cell (World.block_lt_of_cell? w _ hw316_0)).trans hw316_0)⟩ (fun hHeld => ?_); refine with_tabW maskref4_BestRow.tab12 maskref4_BestRow.bits12 (fun HT_ HW_ => ?_)
                         generalize wr.drew = w43 at HO_8 BK313 HB hx316_0 hHeld ⊢
                         refine pure_ (i := 0) (N := some 32) (v := ?_) (a' := ?_) #[true,false,false,false,false,false,false,false,false,false] rfl rfl (any_of HT_.out (by kernel_rfl)) (fun _ _ _ h => h) (Or.inl ⟨by rfl, ?_⟩) ?_ ?_
                         rotate_left; focus (intro w'; go_simp; with_reducible rfl)
                         rotate_left; focus (simp only [Act.put, z1, z2, z3, i64_w, i32_w]; rfl)
                         refine pure_ (i := 1) (N := some 33) (v := ?_) (a' := ?_) #[true,true,false,false,false,false,false,false,false,false] rfl rfl (any_of HT_.out (by kernel_rfl)) (fun _ _ _ h => h) (Or.inl ⟨by rfl, ?_⟩) ?_ ?_
                         rotate_left; focus (intro w'; go_simp; with_reducible rfl)
                         rotate_left; focus (simp only [Act.put, z1, z2, z3, i64_w, i32_w]; rfl)
                         refine pure_ (i := 2) (N := some 34) (v := ?_) (a' := ?_) #[true,true,true,false,false,false,false,false,false,false] rfl rfl (any_of HT_.out (by kernel_rfl)) (fun _ _ _ h => h) (Or.inl ⟨by rfl, ?_⟩) ?_ ?_
                         rotate_left; focus (intro w'; go_simp; with_reducible rfl)
                         rotate_left; focus (simp only [Act.put, z1, z2, z3, i64_w, i32_w]; rfl)
                         refine pure_ (i := 5) (N := some 37) (v := ?_) (a' := ?_) #[true,true,true,false,false,true,false,false,false,false] rfl rfl (any_of HT_.out (by kernel_rfl)) (fun _ _ _ h => h) (Or.inl ⟨by rfl, ?_⟩) ?_ ?_
                         rotate_left; focus (intro w'; go_simp; with_reducible rfl)
                         rotate_left; focus (simp only [Act.put, z1, z2, z3, i64_w, i32_w]; rfl)
                         refine pure_ (i := 7) (N := some 39) (v := ?_) (a' := ?_) #[true,true,true,false,false,true,false,true,false,false] rfl rfl (any_of HT_.out (by kernel_rfl)) (fun _ _ _ h => h) (Or.inl ⟨by rfl, ?_⟩) ?_ ?_
                         rotate_left; focus (intro w'; go_simp; with_reducible rfl)
                         rotate_left; focus (simp only [Act.put, z1, z2, z3, i64_w, i32_w]; rfl)
                         refine take_ (i := 3) (N := some 35) (v := ?_) (a' := ?_) #[true,true,true,true,false,true,false,true,false,false] rfl rfl (take_ofW HT_.out HW_.out (by kernel_rfl)) (fun _ _ _ h => h) (Or.inl ⟨by rfl, ?_⟩) hHeld ?_ ?_
                         rotate_left
                         · rintro w' ⟨s0, s1, s2⟩
                           go_simp
                           with_reducible rfl
                         rotate_left; focus (simp only [Act.put, z1, z2, z3, i64_w, i32_w]; rfl)
                         refine pure_ (i := 4) (N := some 36) (v := ?_) (a' := ?_) #[true,true,true,true,true,true,false,true,false,false] rfl rfl (any_of HT_.out (by kernel_rfl)) (fun _ _ _ h => h) (Or.inl ⟨by rfl, ?_⟩) ?_ ?_
                         rotate_left; focus (intro w'; go_simp; with_reducible rfl)
                         rotate_left; focus (simp only [Act.put, z1, z2, z3, i64_w, i32_w]; rfl)
                         refine pure_ (i := 6) (N := some 38) (v := ?_) (a' := ?_) #[true,true,true,true,true,true,true,true,false,false] rfl rfl (any_of HT_.out (by kernel_rfl)) (fun _ _ _ h => h) (Or.inl ⟨by rfl, ?_⟩) ?_ ?_
                         rotate_left; focus (intro w'; go_simp; with_reducible rfl)
                         rotate_left; focus (simp only [Act.put, z1, z2, z3, i64_w, i32_w]; rfl)
                         refine take_ (i := 8) (N := some 40) (v := ?_) (a' := ?_) #[true,true,true,true,true,true,true,true,true,false] rfl rfl (take_ofW HT_.out HW_.out (by kernel_rfl)) (fun _ _ _ h => h) (Or.inl ⟨by rfl, ?_⟩) hHeld ?_ ?_
                         rotate_left
                         · rintro w' ⟨s0, s1, s2⟩
                           go_simp
                           with_reducible rfl
                         rotate_left; focus (simp only [Act.put, z1, z2, z3, i64_w, i32_w]; rfl)
                         refine pure_ (i := 9) (N := some 41) (v := ?_) (a' := ?_) #[true,true,true,true,true,true,true,true,true,true] rfl rfl (any_of HT_.out (by kernel_rfl)) (fun _ _ _ h => h) (Or.inl ⟨by rfl, ?_⟩) ?_ ?_
                         rotate_left; focus (intro w'; go_simp; with_reducible rfl)
                         rotate_left; focus (simp only [Act.put, z1, z2, z3, i64_w, i32_w]; rfl)
                         refine done_ (done_of HT_.out (by kernel_rfl)) ?_
                         try go_wp2
                         have n0_ := Aside0.mk (Kd.R_drew HO_8.out)
                         have n1_ := Aside0.mk (blk_drew BK313.out)
                         have n2_ := Aside0.mk (below_drew1 HB.out)
                         clear HO_8
                         clear BK313
                         clear HB
                         have HO_8 := n0_
                         have BK313 := n1_
                         have HB := n2_
                         clear n0_ n1_ n2_
                         obtain ⟨i045, hi045, _, hsz45, _⟩ := info_parts info3
                         obtain ⟨A45, hcut45, hA45, hC45⟩ := print_drop_of (P := Try.prog) (Value.int .i64) 0 25 3 .i64 Try.underlying25 hi045 hsz45 A0 c0 l0 1 (by omega) (of_decide_eq_true (by first | (with_reducible assumption) | assumption)) HC0.out
                         have HR317 := Aside0.mk (Kd.C_of_reads (h1 := fun _ => rfl) (hA45 _ (Kd.reads_of_C HR0.out)))
                         have HC317 := Aside0.mk hC45
                         clear hA45 hC45 hi045 hsz45
                         first | (have e_ : A45 = A23 := (Value.slice.inj (Result.ok.inj ((hcut23 w).symm.trans (hcut45 w))).1).1.symm; subst e_) | skip
                         first | (have e_ : A45 = A35 := (Value.slice.inj (Result.ok.inj ((hcut35 w).symm.trans (hcut45 w))).1).1.symm; subst e_) | skip
                         obtain ⟨i046, hi046, _, hsz46, _⟩ := info_parts info3
                         obtain ⟨A46, hcut46, hA46, hC46⟩ := print_drop_of (P := Try.prog) (Value.int .i64) 0 25 3 .i64 Try.underlying25 hi046 hsz46 (some ad316) c1 l1 1 (by omega) (of_decide_eq_true (by first | (with_reducible assumption) | assumption)) HC1.out
                         have HR318 := Aside0.mk (Kd.C_of_reads (h1 := fun _ => rfl) (hA46 _ (Kd.reads_of_C HR1.out)))
                         have HC318 := Aside0.mk hC46
                         clear hA46 hC46 hi046 hsz46
                         first | (have e_ : A46 = A8 := (Value.slice.inj (Result.ok.inj ((hcut8 w).symm.trans (hcut46 w))).1).1.symm; subst e_) | skip
                         first | (have e_ : A46 = A24 := (Value.slice.inj (Result.ok.inj ((hcut24 w).symm.trans (hcut46 w))).1).1.symm; subst e_) | skip
                         first | (have e_ : A46 = A36 := (Value.slice.inj (Result.ok.inj ((hcut36 w).symm.trans (hcut46 w))).1).1.symm; subst e_) | skip
                         have p319 : 0 ≤ (0 : Int) := (by omega)
                         have q319 : 0 < (l1.length : Int) := of_decide_eq_true (by first | (with_reducible assumption) | assumption)
                         obtain ⟨ad319, e319, hx319_0⟩ := Kd.at_int HR1.out 0 p319 q319
                         have hw319_0 := hx319_0
                         (try rw [show ((0 : Int)).toNat = 0 from rfl] at hw319_0)
                         (try rw [show 0 * 1 = 0 from rfl] at hw319_0)
                         (try rw [Addr.add_zero'] at hw319_0)
                         obtain rfl : ad316 = ad319 := (by injection e319)
                         have qi319 : (0 < l1.length) = True := eq_true (by omega)
                         (try rw [show ((0 : Int)).toNat = 0 from rfl] at hx319_0)
                         (try rw [Addr.add_zero'] at hx319_0)
                         replace hx319_0 := (HB.out.cell (World.block_lt_of_cell? w _ hx319_0)).trans hx319_0
                         replace p319 := eq_true p319
                         replace q319 := eq_true q319
                         refine start_ (n := 18) (S := fun w' => w'.cell? ⟨gb313, 0, none⟩ = some (.int .i64 a2_0) ∧ w'.cell? ⟨gb313, 1, none⟩ = some (.int .i64 a2_1) ∧ w'.cell? ad316 = some (.int .i64 (rd l1 0))) (ds := []) #[false,false,false,false,false,false,false,false,false,false,false,false,false,false,false,false,false,false] (by kernel_rfl) rfl rfl ⟨(blk_cell BK313.out 0).trans rfl, (blk_cell BK313.out 1).trans rfl, ((HB.out.cell (World.block_lt_of_cell? w _ hw319_0)).trans hw319_0)⟩ (fun hHeld => ?_); refine with_tabW maskref4_BestRow.tab14 maskref4_BestRow.bits14 (fun HT_ HW_ => ?_)
                         generalize w43.drew = w44 at HO_8 BK313 HB HR317 HR318 hx319_0 hHeld ⊢
                         refine pure_ (i := 0) (N := some 45) (v := ?_) (a' := ?_) #[true,false,false,false,false,false,false,false,false,false,false,false,false,false,false,false,false,false] rfl rfl (any_of HT_.out (by kernel_rfl)) (fun _ _ _ h => h) (Or.inl ⟨by rfl, ?_⟩) ?_ ?_
                         rotate_left; focus (intro w'; go_simp; with_reducible rfl)
                         rotate_left; focus (simp only [Act.put, z1, z2, z3, i64_w, i32_w]; rfl)
                         refine pure_ (i := 1) (N := some 46) (v := ?_) (a' := ?_) #[true,true,false,false,false,false,false,false,false,false,false,false,false,false,false,false,false,false] rfl rfl (any_of HT_.out (by kernel_rfl)) (fun _ _ _ h => h) (Or.inl ⟨by rfl, ?_⟩) ?_ ?_
                         rotate_left; focus (intro w'; go_simp; with_reducible rfl)
                         rotate_left; focus (simp only [Act.put, z1, z2, z3, i64_w, i32_w]; rfl)
                         refine pure_ (i := 2) (N := some 47) (v := ?_) (a' := ?_) #[true,true,true,false,false,false,false,false,false,false,false,false,false,false,false,false,false,false] rfl rfl (any_of HT_.out (by kernel_rfl)) (fun _ _ _ h => h) (Or.inl ⟨by rfl, ?_⟩) ?_ ?_
                         rotate_left; focus (intro w'; go_simp; with_reducible rfl)
                         rotate_left; focus (simp only [Act.put, z1, z2, z3, i64_w, i32_w]; rfl)
                         refine pure_ (i := 3) (N := some 48) (v := ?_) (a' := ?_) #[true,true,true,true,false,false,false,false,false,false,false,false,false,false,false,false,false,false] rfl rfl (any_of HT_.out (by kernel_rfl)) (fun _ _ _ h => h) (Or.inl ⟨by rfl, ?_⟩) ?_ ?_
                         rotate_left; focus (intro w'; go_simp; with_reducible rfl)
                         rotate_left; focus (simp only [Act.put, z1, z2, z3, i64_w, i32_w]; rfl)
                         refine pure_ (i := 4) (N := some 49) (v := ?_) (a' := ?_) #[true,true,true,true,true,false,false,false,false,false,false,false,false,false,false,false,false,false] rfl rfl (any_of HT_.out (by kernel_rfl)) (fun _ _ _ h => h) (Or.inl ⟨by rfl, ?_⟩) ?_ ?_
                         rotate_left; focus (intro w'; go_simp; with_reducible rfl)
                         rotate_left; focus (simp only [Act.put, z1, z2, z3, i64_w, i32_w]; rfl)
                         refine pure_ (i := 5) (N := some 50) (v := ?_) (a' := ?_) #[true,true,true,true,true,true,false,false,false,false,false,false,false,false,false,false,false,false] rfl rfl (any_of HT_.out (by kernel_rfl)) (fun _ _ _ h => h) (Or.inl ⟨by rfl, ?_⟩) ?_ ?_
                         rotate_left; focus (intro w'; go_simp; with_reducible rfl)
                         rotate_left; focus (simp only [Act.put, z1, z2, z3, i64_w, i32_w]; rfl)
                         refine pure_ (i := 6) (N := some 51) (v := ?_) (a' := ?_) #[true,true,true,true,true,true,true,false,false,false,false,false,false,false,false,false,false,false] rfl rfl (any_of HT_.out (by kernel_rfl)) (fun _ _ _ h => h) (Or.inl ⟨by rfl, ?_⟩) ?_ ?_
                         rotate_left; focus (intro w'; go_simp; with_reducible rfl)
                         rotate_left; focus (simp only [Act.put, z1, z2, z3, i64_w, i32_w]; rfl)
                         refine pure_ (i := 9) (N := some 54) (v := ?_) (a' := ?_) #[true,true,true,true,true,true,true,false,false,true,false,false,false,false,false,false,false,false] rfl rfl (any_of HT_.out (by kernel_rfl)) (fun _ _ _ h => h) (Or.inl ⟨by rfl, ?_⟩) ?_ ?_
                         rotate_left; focus (intro w'; go_simp; with_reducible rfl)
                         rotate_left; focus (simp only [Act.put, z1, z2, z3, i64_w, i32_w]; rfl)
                         refine take_ (i := 7) (N := some 52) (v := ?_) (a' := ?_) #[true,true,true,true,true,true,true,true,false,true,false,false,false,false,false,false,false,false] rfl rfl (take_ofW HT_.out HW_.out (by kernel_rfl)) (fun _ _ _ h => h) (Or.inl ⟨by rfl, ?_⟩) hHeld ?_ ?_
                         rotate_left
                         · rintro w' ⟨s0, s1, s2⟩
                           go_simp
                           with_reducible rfl
                         rotate_left; focus (simp only [Act.put, z1, z2, z3, i64_w, i32_w]; rfl)
                         refine pure_ (i := 8) (N := some 53) (v := ?_) (a' := ?_) #[true,true,true,true,true,true,true,true,true,true,false,false,false,false,false,false,false,false] rfl rfl (any_of HT_.out (by kernel_rfl)) (fun _ _ _ h => h) (Or.inl ⟨by rfl, ?_⟩) ?_ ?_
                         rotate_left; focus (intro w'; go_simp; with_reducible rfl)
                         rotate_left; focus (simp only [Act.put, z1, z2, z3, i64_w, i32_w]; rfl)
                         refine take_ (i := 10) (N := some 55) (v := ?_) (a' := ?_) #[true,true,true,true,true,true,true,true,true,true,true,false,false,false,false,false,false,false] rfl rfl (take_ofW HT_.out HW_.out (by kernel_rfl)) (fun _ _ _ h => h) (Or.inl ⟨by rfl, ?_⟩) hHeld ?_ ?_
                         rotate_left
                         · rintro w' ⟨s0, s1, s2⟩
                           go_simp
                           with_reducible rfl
                         rotate_left; focus (simp only [Act.put, z1, z2, z3, i64_w, i32_w]; rfl)
                         refine pure_ (i := 11) (N := some 56) (v := ?_) (a' := ?_) #[true,true,true,true,true,true,true,true,true,true,true,true,false,false,false,false,false,false] rfl rfl (any_of HT_.out (by kernel_rfl)) (fun _ _ _ h => h) (Or.inl ⟨by rfl, ?_⟩) ?_ ?_
                         rotate_left; focus (intro w'; go_simp; with_reducible rfl)
                         rotate_left; focus (simp only [Act.put, z1, z2, z3, i64_w, i32_w]; rfl)
                         refine one_ (i := 12) (N := some 57) #[true,true,true,true,true,true,true,true,true,true,true,true,true,false,false,false,false,false] rfl rfl (one_of HT_.out (by kernel_rfl)) (by decide) (fun K hK => ?_)
                         refine goes_ Try.func34 (by kernel_rfl) rfl #[.slice A45 (l0.drop 1).length (c0 - 1), .slice A46 (l1.drop 1).length (c1 - 1), .agg #[.int .i64 (wrap64 (x13_2 + (rd l1 0))), .int .i64 a2_1]] (by rfl) rfl rfl (by (try simp only [List.map_toArray, List.map_cons, List.map_nil]); first | done | (rw [show (l0.drop 1).length = (l0.length - 1) from List.length_drop] <;> rfl) | (rw [show (l1.drop 1).length = (l1.length - 1) from List.length_drop] <;> rfl) | rfl | (simp only [List.length_drop, List.length_take]; rfl)) ?_
                         with_reducible refine (ih k2 (by have := HK1.out; have := HK2.out; omega) _ _ (l0.drop 1) _ _ (l1.drop 1) (wrap64 (x13_2 + (rd l1 0))) a2_1 t320 t323 _ ?side1 ?side2 ?side3 ?side4 A17.out).mono ?_
                         (case side1 => repeat (first | exact (Kd.C_below HR317.out HB.out) | (with_reducible refine Kd.C_alloc ?_ _) | (with_reducible refine Kd.C_drewN ?_ _) | (with_reducible refine Kd.C_drew ?_)))
                         (case side2 => exact HC317.out)
                         (case side3 => repeat (first | exact (Kd.C_below HR318.out HB.out) | (with_reducible refine Kd.C_alloc ?_ _) | (with_reducible refine Kd.C_drewN ?_ _) | (with_reducible refine Kd.C_drew ?_)))
                         (case side4 => exact HC318.out)
                         rintro e w47 ⟨v321, rfl, ho0, hb⟩
                         refine ⟨_, rfl, ?_⟩
                         have n0_ := Aside0.mk (Kd.R_elder' (by (with_reducible repeat (first | apply Kd.R_alloc | apply Kd.R_drewN | apply Kd.R_drew)); exact HO_8.out) (Kd.R_base ho0) hb)
                         have n1_ := Aside0.mk (Kd.R_lower (Kd.R_new' ho0 (Kd.R_lt (by (with_reducible repeat (first | apply Kd.R_alloc | apply Kd.R_drewN | apply Kd.R_drew)); exact HO_8.out))) (below_size (by repeat (first | (with_reducible first | exact HB.out | apply below_alloc | apply pw_below_drewN | apply below_drew1 | refine below_set ?_ GE313.out) | exact HB.out))))
                         have n2_ := Aside0.mk (blk_below (g := gb313) (o := .cells #[.int .i64 a2_0, .int .i64 a2_1] 62 (0, 0)) (by (with_reducible repeat (first | refine blk_drewN ?_ _ | refine blk_drew ?_ | refine blk_alloc ?_ _)); exact BK313.out) hb)
                         have n3_ := Aside0.mk (below_step (by repeat (first | (with_reducible first | exact HB.out | apply below_alloc | apply pw_below_drewN | apply below_drew1 | refine below_set ?_ GE313.out) | exact HB.out)) hb)
                         clear HO_8
                         clear BK313
                         clear HB
                         have HO_8 := n0_
                         have HO322 := n1_
                         have BK313 := n2_
                         have HB := n3_
                         clear n0_ n1_ n2_ n3_
                         (try clear hb)
                         (try clear hb2)
                         (try clear hk)
                         (try clear hi)
                         (try clear ho0)
                         refine hK.out _ _ ⟨(blk_cell BK313.out 0).trans rfl, (blk_cell BK313.out 1).trans rfl, ((HB.out.cell (World.block_lt_of_cell? w _ hw319_0)).trans hw319_0)⟩ (fun hHeld => ?_)
                         clear hK K
                         refine norm_ (a' := ?_) ?_ ?_
                         rotate_left; focus (show Act.put _ (some 57) _ = _; simp only [Act.put, z1, z2, z3, i64_w, i32_w]; rfl)
                         refine pure_ (i := 13) (N := some 44) (v := ?_) (a' := ?_) #[true,true,true,true,true,true,true,true,true,true,true,true,true,true,false,false,false,false] rfl rfl (any_of HT_.out (by kernel_rfl)) (fun _ _ _ h => h) (Or.inl ⟨by rfl, ?_⟩) ?_ ?_
                         rotate_left; focus (intro w'; go_simp; with_reducible rfl)
                         rotate_left; focus (simp only [Act.put, z1, z2, z3, i64_w, i32_w]; rfl)
                         refine pure_ (i := 14) (N := some 58) (v := ?_) (a' := ?_) #[true,true,true,true,true,true,true,true,true,true,true,true,true,true,true,false,false,false] rfl rfl (any_of HT_.out (by kernel_rfl)) (fun _ _ _ h => h) (Or.inl ⟨by rfl, ?_⟩) ?_ ?_
                         rotate_left; focus (intro w'; go_simp; with_reducible rfl)
                         rotate_left; focus (simp only [Act.put, z1, z2, z3, i64_w, i32_w]; rfl)
                         refine pure_ (i := 15) (N := some 59) (v := ?_) (a' := ?_) #[true,true,true,true,true,true,true,true,true,true,true,true,true,true,true,true,false,false] rfl rfl (any_of HT_.out (by kernel_rfl)) (fun _ _ _ h => h) (Or.inl ⟨by rfl, ?_⟩) ?_ ?_
                         rotate_left; focus (intro w'; go_simp; with_reducible rfl)
                         rotate_left; focus (simp only [Act.put, z1, z2, z3, i64_w, i32_w]; rfl)
                         refine pure_ (i := 16) (N := some 14) (v := ?_) (a' := ?_) #[true,true,true,true,true,true,true,true,true,true,true,true,true,true,true,true,true,false] rfl rfl (any_of HT_.out (by kernel_rfl)) (fun _ _ _ h => h) (Or.inl ⟨by rfl, ?_⟩) ?_ ?_
                         rotate_left; focus (intro w'; go_simp; with_reducible rfl)
                         rotate_left; focus (simp only [Act.put, z1, z2, z3, i64_w, i32_w]; rfl)
                         refine pure_ (i := 17) (N := some 15) (v := ?_) (a' := ?_) #[true,true,true,true,true,true,true,true,true,true,true,true,true,true,true,true,true,true] rfl rfl (any_of HT_.out (by kernel_rfl)) (fun _ _ _ h => h) (Or.inl ⟨by rfl, ?_⟩) ?_ ?_
                         rotate_left; focus (intro w'; go_simp; with_reducible rfl)
                         rotate_left; focus (simp only [Act.put, z1, z2, z3, i64_w, i32_w]; rfl)
                         refine done_ (done_of HT_.out (by kernel_rfl)) ?_
                         try go_wp2
                         have n0_ := Aside0.mk (Kd.R_drew HO_8.out)
                         have n1_ := Aside0.mk (Kd.R_drew HO322.out)
                         have n2_ := Aside0.mk (blk_drew BK313.out)
                         have n3_ := Aside0.mk (below_drew1 HB.out)
                         clear HO_8
                         clear HO322
                         clear BK313
                         clear HB
                         have HO_8 := n0_
                         have HO322 := n1_
                         have BK313 := n2_
                         have HB := n3_
                         clear n0_ n1_ n2_ n3_
                         have p324 : 0 ≤ (0 : Int) := (by omega)
                         have q324 : 0 < (l0.length : Int) := of_decide_eq_true (by first | (with_reducible assumption) | assumption)
                         obtain ⟨ad324, e324, hx324_0⟩ := Kd.at_int HR0.out 0 p324 q324
                         have hw324_0 := hx324_0
                         (try rw [show ((0 : Int)).toNat = 0 from rfl] at hw324_0)
                         (try rw [show 0 * 1 = 0 from rfl] at hw324_0)
                         (try rw [Addr.add_zero'] at hw324_0)
                         cases e324
                         have qi324 : (0 < l0.length) = True := eq_true (by omega)
                         (try rw [show ((0 : Int)).toNat = 0 from rfl] at hx324_0)
                         (try rw [Addr.add_zero'] at hx324_0)
                         replace hx324_0 := (HB.out.cell (World.block_lt_of_cell? w _ hx324_0)).trans hx324_0
                         replace p324 := eq_true p324
                         replace q324 := eq_true q324
                         have p325 : 0 ≤ (0 : Int) := (by omega)
                         have q325 : 0 < (l0.length : Int) := of_decide_eq_true (by first | (with_reducible assumption) | assumption)
                         obtain ⟨ad325, e325, hx325_0⟩ := Kd.at_int HR0.out 0 p325 q325
                         have hw325_0 := hx325_0
                         (try rw [show ((0 : Int)).toNat = 0 from rfl] at hw325_0)
                         (try rw [show 0 * 1 = 0 from rfl] at hw325_0)
                         (try rw [Addr.add_zero'] at hw325_0)
                         obtain rfl : ad324 = ad325 := (by injection e325)
                         have qi325 : (0 < l0.length) = True := eq_true (by omega)
                         (try rw [show ((0 : Int)).toNat = 0 from rfl] at hx325_0)
                         (try rw [Addr.add_zero'] at hx325_0)
                         replace hx325_0 := (HB.out.cell (World.block_lt_of_cell? w _ hx325_0)).trans hx325_0
                         replace p325 := eq_true p325
                         replace q325 := eq_true q325
                         refine start_ (n := 14) (S := fun w' => w'.cell? ad324 = some (.int .i64 (rd l0 0)) ∧ w'.cell? ad324 = some (.int .i64 (rd l0 0))) (ds := []) #[false,false,false,false,false,false,false,false,false,false,false,false,false,false] (by kernel_rfl) rfl rfl ⟨((HB.out.cell (World.block_lt_of_cell? w _ hw324_0)).trans hw324_0), ((HB.out.cell (World.block_lt_of_cell? w _ hw325_0)).trans hw325_0)⟩ (fun hHeld => ?_); refine with_tabW maskref4_BestRow.tab15 maskref4_BestRow.bits15 (fun HT_ HW_ => ?_)
                         generalize w47.drew = w48 at HO_8 HO322 BK313 HB hx324_0 hx325_0 hHeld ⊢
                         refine pure_ (i := 0) (N := some 60) (v := ?_) (a' := ?_) #[true,false,false,false,false,false,false,false,false,false,false,false,false,false] rfl rfl (any_of HT_.out (by kernel_rfl)) (fun _ _ _ h => h) (Or.inl ⟨by rfl, ?_⟩) ?_ ?_
                         rotate_left; focus (intro w'; go_simp; with_reducible rfl)
                         rotate_left; focus (simp only [Act.put, z1, z2, z3, i64_w, i32_w]; rfl)
                         refine pure_ (i := 1) (N := some 61) (v := ?_) (a' := ?_) #[true,true,false,false,false,false,false,false,false,false,false,false,false,false] rfl rfl (any_of HT_.out (by kernel_rfl)) (fun _ _ _ h => h) (Or.inl ⟨by rfl, ?_⟩) ?_ ?_
                         rotate_left; focus (intro w'; go_simp; with_reducible rfl)
                         rotate_left; focus (simp only [Act.put, z1, z2, z3, i64_w, i32_w]; rfl)
                         refine pure_ (i := 2) (N := some 62) (v := ?_) (a' := ?_) #[true,true,true,false,false,false,false,false,false,false,false,false,false,false] rfl rfl (any_of HT_.out (by kernel_rfl)) (fun _ _ _ h => h) (Or.inl ⟨by rfl, ?_⟩) ?_ ?_
                         rotate_left; focus (intro w'; go_simp; with_reducible rfl)
                         rotate_left; focus (simp only [Act.put, z1, z2, z3, i64_w, i32_w]; rfl)
                         refine pure_ (i := 3) (N := some 63) (v := ?_) (a' := ?_) #[true,true,true,true,false,false,false,false,false,false,false,false,false,false] rfl rfl (any_of HT_.out (by kernel_rfl)) (fun _ _ _ h => h) (Or.inl ⟨by rfl, ?_⟩) ?_ ?_
                         rotate_left; focus (intro w'; go_simp; with_reducible rfl)
                         rotate_left; focus (simp only [Act.put, z1, z2, z3, i64_w, i32_w]; rfl)
                         refine pure_ (i := 6) (N := some 66) (v := ?_) (a' := ?_) #[true,true,true,true,false,false,true,false,false,false,false,false,false,false] rfl rfl (any_of HT_.out (by kernel_rfl)) (fun _ _ _ h => h) (Or.inl ⟨by rfl, ?_⟩) ?_ ?_
                         rotate_left; focus (intro w'; go_simp; with_reducible rfl)
                         rotate_left; focus (simp only [Act.put, z1, z2, z3, i64_w, i32_w]; rfl)
                         refine pure_ (i := 7) (N := some 67) (v := ?_) (a' := ?_) #[true,true,true,true,false,false,true,true,false,false,false,false,false,false] rfl rfl (any_of HT_.out (by kernel_rfl)) (fun _ _ _ h => h) (Or.inl ⟨by rfl, ?_⟩) ?_ ?_
                         rotate_left; focus (intro w'; go_simp; with_reducible rfl)
                         rotate_left; focus (simp only [Act.put, z1, z2, z3, i64_w, i32_w]; rfl)
                         refine pure_ (i := 8) (N := some 68) (v := ?_) (a' := ?_) #[true,true,true,true,false,false,true,true,true,false,false,false,false,false] rfl rfl (any_of HT_.out (by kernel_rfl)) (fun _ _ _ h => h) (Or.inl ⟨by rfl, ?_⟩) ?_ ?_
                         rotate_left; focus (intro w'; go_simp; with_reducible rfl)
                         rotate_left; focus (simp only [Act.put, z1, z2, z3, i64_w, i32_w]; rfl)
                         refine take_ (i := 4) (N := some 64) (v := ?_) (a' := ?_) #[true,true,true,true,true,false,true,true,true,false,false,false,false,false] rfl rfl (take_ofW HT_.out HW_.out (by kernel_rfl)) (fun _ _ _ h => h) (Or.inl ⟨by rfl, ?_⟩) hHeld ?_ ?_
                         rotate_left
                         · rintro w' ⟨s0, s1⟩
                           go_simp
                           with_reducible rfl
                         rotate_left; focus (simp only [Act.put, z1, z2, z3, i64_w, i32_w]; rfl)
                         refine pure_ (i := 5) (N := some 65) (v := ?_) (a' := ?_) #[true,true,true,true,true,true,true,true,true,false,false,false,false,false] rfl rfl (any_of HT_.out (by kernel_rfl)) (fun _ _ _ h => h) (Or.inl ⟨by rfl, ?_⟩) ?_ ?_
                         rotate_left; focus (intro w'; go_simp; with_reducible rfl)
                         rotate_left; focus (simp only [Act.put, z1, z2, z3, i64_w, i32_w]; rfl)
                         refine take_ (i := 9) (N := some 69) (v := ?_) (a' := ?_) #[true,true,true,true,true,true,true,true,true,true,false,false,false,false] rfl rfl (take_ofW HT_.out HW_.out (by kernel_rfl)) (fun _ _ _ h => h) (Or.inl ⟨by rfl, ?_⟩) hHeld ?_ ?_
                         rotate_left
                         · rintro w' ⟨s0, s1⟩
                           go_simp
                           with_reducible rfl
                         rotate_left; focus (simp only [Act.put, z1, z2, z3, i64_w, i32_w]; rfl)
                         refine pure_ (i := 10) (N := some 70) (v := ?_) (a' := ?_) #[true,true,true,true,true,true,true,true,true,true,true,false,false,false] rfl rfl (any_of HT_.out (by kernel_rfl)) (fun _ _ _ h => h) (Or.inl ⟨by rfl, ?_⟩) ?_ ?_
                         rotate_left; focus (intro w'; go_simp; with_reducible rfl)
                         rotate_left; focus (simp only [Act.put, z1, z2, z3, i64_w, i32_w]; rfl)
                         refine pure_ (i := 11) (N := some 71) (v := ?_) (a' := ?_) #[true,true,true,true,true,true,true,true,true,true,true,true,false,false] rfl rfl (any_of HT_.out (by kernel_rfl)) (fun _ _ _ h => h) (Or.inl ⟨by rfl, ?_⟩) ?_ ?_
                         rotate_left; focus (intro w'; go_simp; with_reducible rfl)
                         rotate_left; focus (simp only [Act.put, z1, z2, z3, i64_w, i32_w]; rfl)
                         refine pure_ (i := 12) (N := some 72) (v := ?_) (a' := ?_) #[true,true,true,true,true,true,true,true,true,true,true,true,true,false] rfl rfl (any_of HT_.out (by kernel_rfl)) (fun _ _ _ h => h) (Or.inl ⟨by rfl, ?_⟩) ?_ ?_
                         rotate_left; focus (intro w'; go_simp; with_reducible rfl)
                         rotate_left; focus (simp only [Act.put, z1, z2, z3, i64_w, i32_w]; rfl)
                         refine pure_ (i := 13) (N := some 15) (v := ?_) (a' := ?_) #[true,true,true,true,true,true,true,true,true,true,true,true,true,true] rfl rfl (any_of HT_.out (by kernel_rfl)) (fun _ _ _ h => h) (Or.inl ⟨by rfl, ?_⟩) ?_ ?_
                         rotate_left; focus (intro w'; go_simp; with_reducible rfl)
                         rotate_left; focus (simp only [Act.put, z1, z2, z3, i64_w, i32_w]; rfl)
                         refine done_ (done_of HT_.out (by kernel_rfl)) ?_
                         try go_wp2
                         go_roundg k2
                         case measure => have := HK1.out; have := HK2.out; omega
                         case rel => exact ⟨(x8_2), (x9_2), (wrap64 (x13_2 + 1)), (by first | rfl | (simp; done) | (simp [*]; done)), (by first | rfl | (simp; done) | (simp [*]; done)), H', ⟨by have := HK1.out; have := HK2.out; omega⟩, ⟨by (with_reducible repeat (first | apply Kd.R_alloc | apply Kd.R_drewN | apply Kd.R_drew)); exact Kd.R_mono HO_8.out (fun _ hk => trivial)⟩, ⟨by (with_reducible repeat (first | refine blk_drewN ?_ _ | refine blk_drew ?_ | refine blk_alloc ?_ _)); exact BK313.out⟩, ⟨by repeat (first | (with_reducible first | exact HB.out | apply below_alloc | apply pw_below_drewN | apply below_drew1 | refine below_set ?_ GE313.out) | exact HB.out)⟩⟩
                   · rw [if_neg c18] at H
                     exact absurd H (by simp)
                 · rw [if_neg c16] at H
                   exact absurd H (by simp)
               · rw [if_neg c15] at H
                 exact absurd H (by simp)
             · rw [if_neg c14] at H
               have c14b0 : decide ((wrap64 ((wrap64 (x13_2 + (rd l1 0))) + x10_1)) ≤ a2_1) = false := decide_eq_false c14
               clear c14
               simp only [Option.some.injEq, Prod.mk.injEq] at H
               obtain ⟨rfl, rfl⟩ := H
               try go_wp2
               have n0_ := Aside0.mk (Kd.R_drew HO_8.out)
               have n1_ := Aside0.mk (blk_drew BK313.out)
               have n2_ := Aside0.mk (below_drew1 HB.out)
               clear HO_8
               clear BK313
               clear HB
               have HO_8 := n0_
               have BK313 := n1_
               have HB := n2_
               clear n0_ n1_ n2_
               have p316 : 0 ≤ (0 : Int) := (by omega)
               have q316 : 0 < (l1.length : Int) := of_decide_eq_true (by first | (with_reducible assumption) | assumption)
               obtain ⟨ad316, e316, hx316_0⟩ := Kd.at_int HR1.out 0 p316 q316
               have hw316_0 := hx316_0
               (try rw [show ((0 : Int)).toNat = 0 from rfl] at hw316_0)
               (try rw [show 0 * 1 = 0 from rfl] at hw316_0)
               (try rw [Addr.add_zero'] at hw316_0)
               cases e316
               have qi316 : (0 < l1.length) = True := eq_true (by omega)
               (try rw [show ((0 : Int)).toNat = 0 from rfl] at hx316_0)
               (try rw [Addr.add_zero'] at hx316_0)
               replace hx316_0 := (HB.out.cell (World.block_lt_of_cell? w _ hx316_0)).trans hx316_0
               replace p316 := eq_true p316
               replace q316 := eq_true q316
               refine start_ (n := 10) (S := fun w' => w'.cell? ⟨gb313, 0, none⟩ = some (.int .i64 a2_0) ∧ w'.cell? ⟨gb313, 1, none⟩ = some (.int .i64 a2_1) ∧ w'.cell? ad316 = some (.int .i64 (rd l1 0))) (ds := []) #[false,false,false,false,false,false,false,false,false,false] (by kernel_rfl) rfl rfl ⟨(blk_cell BK313.out 0).trans rfl, (blk_cell BK313.out 1).trans rfl, ((HB.out.cell (World.block_lt_of_cell? w _ hw316_0)).trans hw316_0)⟩ (fun hHeld => ?_); refine with_tabW maskref4_BestRow.tab12 maskref4_BestRow.bits12 (fun HT_ HW_ => ?_)
               generalize wr.drew = w49 at HO_8 BK313 HB hx316_0 hHeld ⊢
               refine pure_ (i := 0) (N := some 32) (v := ?_) (a' := ?_) #[true,false,false,false,false,false,false,false,false,false] rfl rfl (any_of HT_.out (by kernel_rfl)) (fun _ _ _ h => h) (Or.inl ⟨by rfl, ?_⟩) ?_ ?_
               rotate_left; focus (intro w'; go_simp; with_reducible rfl)
               rotate_left; focus (simp only [Act.put, z1, z2, z3, i64_w, i32_w]; rfl)
               refine pure_ (i := 1) (N := some 33) (v := ?_) (a' := ?_) #[true,true,false,false,false,false,false,false,false,false] rfl rfl (any_of HT_.out (by kernel_rfl)) (fun _ _ _ h => h) (Or.inl ⟨by rfl, ?_⟩) ?_ ?_
               rotate_left; focus (intro w'; go_simp; with_reducible rfl)
               rotate_left; focus (simp only [Act.put, z1, z2, z3, i64_w, i32_w]; rfl)
               refine pure_ (i := 2) (N := some 34) (v := ?_) (a' := ?_) #[true,true,true,false,false,false,false,false,false,false] rfl rfl (any_of HT_.out (by kernel_rfl)) (fun _ _ _ h => h) (Or.inl ⟨by rfl, ?_⟩) ?_ ?_
               rotate_left; focus (intro w'; go_simp; with_reducible rfl)
               rotate_left; focus (simp only [Act.put, z1, z2, z3, i64_w, i32_w]; rfl)
               refine pure_ (i := 5) (N := some 37) (v := ?_) (a' := ?_) #[true,true,true,false,false,true,false,false,false,false] rfl rfl (any_of HT_.out (by kernel_rfl)) (fun _ _ _ h => h) (Or.inl ⟨by rfl, ?_⟩) ?_ ?_
               rotate_left; focus (intro w'; go_simp; with_reducible rfl)
               rotate_left; focus (simp only [Act.put, z1, z2, z3, i64_w, i32_w]; rfl)
               refine pure_ (i := 7) (N := some 39) (v := ?_) (a' := ?_) #[true,true,true,false,false,true,false,true,false,false] rfl rfl (any_of HT_.out (by kernel_rfl)) (fun _ _ _ h => h) (Or.inl ⟨by rfl, ?_⟩) ?_ ?_
               rotate_left; focus (intro w'; go_simp; with_reducible rfl)
               rotate_left; focus (simp only [Act.put, z1, z2, z3, i64_w, i32_w]; rfl)
               refine take_ (i := 3) (N := some 35) (v := ?_) (a' := ?_) #[true,true,true,true,false,true,false,true,false,false] rfl rfl (take_ofW HT_.out HW_.out (by kernel_rfl)) (fun _ _ _ h => h) (Or.inl ⟨by rfl, ?_⟩) hHeld ?_ ?_
               rotate_left
               · rintro w' ⟨s0, s1, s2⟩
                 go_simp
                 with_reducible rfl
               rotate_left; focus (simp only [Act.put, z1, z2, z3, i64_w, i32_w]; rfl)
               refine pure_ (i := 4) (N := some 36) (v := ?_) (a' := ?_) #[true,true,true,true,true,true,false,true,false,false] rfl rfl (any_of HT_.out (by kernel_rfl)) (fun _ _ _ h => h) (Or.inl ⟨by rfl, ?_⟩) ?_ ?_
               rotate_left; focus (intro w'; go_simp; with_reducible rfl)
               rotate_left; focus (simp only [Act.put, z1, z2, z3, i64_w, i32_w]; rfl)
               refine pure_ (i := 6) (N := some 38) (v := ?_) (a' := ?_) #[true,true,true,true,true,true,true,true,false,false] rfl rfl (any_of HT_.out (by kernel_rfl)) (fun _ _ _ h => h) (Or.inl ⟨by rfl, ?_⟩) ?_ ?_
               rotate_left; focus (intro w'; go_simp; with_reducible rfl)
               rotate_left; focus (simp only [Act.put, z1, z2, z3, i64_w, i32_w]; rfl)
               refine take_ (i := 8) (N := some 40) (v := ?_) (a' := ?_) #[true,true,true,true,true,true,true,true,true,false] rfl rfl (take_ofW HT_.out HW_.out (by kernel_rfl)) (fun _ _ _ h => h) (Or.inl ⟨by rfl, ?_⟩) hHeld ?_ ?_
               rotate_left
               · rintro w' ⟨s0, s1, s2⟩
                 go_simp
                 with_reducible rfl
               rotate_left; focus (simp only [Act.put, z1, z2, z3, i64_w, i32_w]; rfl)
               refine pure_ (i := 9) (N := some 41) (v := ?_) (a' := ?_) #[true,true,true,true,true,true,true,true,true,true] rfl rfl (any_of HT_.out (by kernel_rfl)) (fun _ _ _ h => h) (Or.inl ⟨by rfl, ?_⟩) ?_ ?_
               rotate_left; focus (intro w'; go_simp; with_reducible rfl)
               rotate_left; focus (simp only [Act.put, z1, z2, z3, i64_w, i32_w]; rfl)
               refine done_ (done_of HT_.out (by kernel_rfl)) ?_
               try go_wp2
               go_ret2
               exact ⟨_, by first | rfl | (simp [errW_none, errW_some] <;> rfl) | (simp [*, errW_none, errW_some] <;> rfl), by (with_reducible repeat (first | apply Kd.R_alloc | apply Kd.R_drewN | apply Kd.R_drew)); exact HO_8.out, by repeat (first | (with_reducible first | exact HB.out | apply below_alloc | apply pw_below_drewN | apply below_drew1 | refine below_set ?_ GE313.out) | exact HB.out)⟩
           · rw [if_neg c13] at H
             exact absurd H (by simp)
   · rw [if_neg c6] at H
     exact absurd H (by simp)

end Go.Proofs.Ytgajgnemfccnhaa.PL
