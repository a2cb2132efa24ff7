-- PRINTED by print.py (a twelfth state) out of the translation. Not trusted: Lean checks it.
import Derived.Test.YtagpbgabcenodaaPBx0
import Derived.Test.YtagpbgabcenodaaPBx27
namespace Go.Proofs.Ytagpbgabcenodaa.PB
open Go.RowKit Go.Proofs.YtagpbgabcenodaaW.PrintWords Go.Proofs.YtagpbgabcenodaaW.PrintLast Go.Proofs.YtagpbgabcenodaaW.PrintMore
attribute [local go_sem] max2_int min2_int max_two min_two max_three min_three max_four min_four   -- for this text's walks alone
private theorem z1 {α : Type} {l : List α} {i : Nat} {a : α} : l.toArray.setIfInBounds i a = (l.set i a).toArray := List.setIfInBounds_toArray _ _ _
private theorem z2 {α : Type} {x : α} {xs : List α} {a : α} : (x :: xs).set 0 a = a :: xs := List.set_cons_zero
private theorem z3 {α : Type} {x : α} {xs : List α} {n : Nat} {a : α} : (x :: xs).set (n + 1) a = x :: xs.set n a := List.set_cons_succ
private abbrev zb (n m : Nat) : Array Bool := (List.replicate n true ++ List.replicate m false).toArray
set_option linter.unusedVariables false
set_option linter.unusedSimpArgs false

/-! ### maskref4_Reaches: function 20 -/
def maskref4_Reaches.f : Nat → Int → List Int → List Int → Int → List (S32) → List Int → Option (Int × Int)
 | 0, _, _, _, _, _, _ => none
 | k + 1, a0_0, l0_1, l0_2, a1, l2, l3 => if a1 < 0 then (some (0, 0)) else (if 0 ≤ a1 then (if a1 < (l0_1.length : Int) then ((maskref4_Reaches.f k a0_0 l0_1 l0_2 (rd l0_1 a1) l2 l3).bind fun bt272 => (if 0 ≤ a0_0 then (if a0_0 < (l2.length : Int) then ((maskref4_LoadOf.f k a0_0 l0_1 l0_2 a1 l2 l3).bind fun t277 => (if 0 < (((rd_T32 l2 a0_0).f6).length : Int) then (if 0 < (((rd_T32 l2 a0_0).f7).length : Int) then (some (wrap64 ((wrap64 (bt272.1 + (rd ((rd_T32 l2 a0_0).f6) 0))) + (wrap64 (((rd_T32 l2 a0_0).f8) * t277))), wrap64 ((wrap64 (bt272.2 + (rd ((rd_T32 l2 a0_0).f7) 0))) + (wrap64 (((rd_T32 l2 a0_0).f8) * t277))))) else (none)) else (none))) else (none)) else (none))) else (none)) else (none))
theorem maskref4_Reaches.mono_l : ∀ k, (∀ y0 y1 y2 y3 y4 y5, LeO (maskref4_Reaches.f k y0 y1 y2 y3 y4 y5) (maskref4_Reaches.f (k + 1) y0 y1 y2 y3 y4 y5))
 | 0 => fun _ _ _ _ _ _ r h => by simp [maskref4_Reaches.f] at h
 | k + 1 => by
  have ih0 := maskref4_Reaches.mono_l k
  · intro y0 y1 y2 y3 y4 y5
    unfold maskref4_Reaches.f
    repeat' first
    | (with_reducible exact ih0 _ _ _ _ _ _)
    | (with_reducible exact maskref4_LoadOf.mono _ _ _ _ _ _ _)
    | (with_reducible exact LeO.refl _)
    | (with_reducible exact LeO.none _)
    | (with_reducible refine LeO.ite ?_ ?_)
    | (with_reducible refine LeO.bind ?_ (fun _ => ?_))
    | exact ih0 _ _ _ _ _ _
    | exact maskref4_LoadOf.mono _ _ _ _ _ _ _
    | exact LeO.none _
    | refine LeO.ite ?_ ?_
    | refine LeO.bind ?_ (fun _ => ?_)
theorem maskref4_Reaches.mono : ∀ a0 a1 a2 a3 a4 a5 k, LeO (maskref4_Reaches.f k a0 a1 a2 a3 a4 a5) (maskref4_Reaches.f (k + 1) a0 a1 a2 a3 a4 a5) := by
 intro a0 a1 a2 a3 a4 a5 k
 have ih0 := maskref4_Reaches.mono_l k
 exact ih0 a0 a1 a2 a3 a4 a5
def maskref4_Reaches.T3 : Bool × List (List Nat × List Nat) := (true, [([], []), ([], []), ([1], [1]), ([], []), ([2, 3], [2, 3]), ([4], [4]), ([], []), ([], []), ([0, 5, 6, 7], [0, 5, 6, 7]), ([], []), ([9, 8, 8, 0, 1, 2, 3, 4, 5, 6, 7, 8, 9], [8, 9])])
def maskref4_Reaches.B3 : List Nat := [0, 0, 2, 0, 14, 30, 0, 0, 255, 0, 1023]
theorem maskref4_Reaches.tab3 : rtab .any (opsOf Try.f20 3) = maskref4_Reaches.T3 := by kernel_rfl
theorem maskref4_Reaches.bits3 : waitsOk maskref4_Reaches.T3.2 maskref4_Reaches.B3 = true := by kernel_rfl
def maskref4_Reaches.T5 : Bool × List (List Nat × List Nat) := (true, [([], []), ([0], [0]), ([], []), ([], []), ([], []), ([], []), ([2, 3, 4, 5], [2, 3, 4, 5]), ([1, 6], [1, 6]), ([7, 6, 0, 1, 2, 3, 4, 5, 6, 7], [7])])
def maskref4_Reaches.B5 : List Nat := [0, 1, 0, 0, 0, 0, 60, 127, 255]
theorem maskref4_Reaches.tab5 : rtab .any (opsOf Try.f20 5) = maskref4_Reaches.T5 := by kernel_rfl
theorem maskref4_Reaches.bits5 : waitsOk maskref4_Reaches.T5.2 maskref4_Reaches.B5 = true := by kernel_rfl
def maskref4_Reaches.T6 : Bool × List (List Nat × List Nat) := (true, [([], []), ([0], [0]), ([], []), ([2], [2]), ([3], [3]), ([4], [4]), ([1, 5], [1, 5]), ([], []), ([6, 7], [6, 7]), ([], []), ([9], [9]), ([], []), ([11], [11]), ([12], [12]), ([13], [13]), ([10, 14], [10, 14]), ([], []), ([15, 16], [15, 16]), ([8, 17], [8, 17]), ([18, 0, 1, 2, 3, 4, 5, 6, 7, 8, 9, 10, 11, 12, 13, 14, 15, 16, 17, 18], [18])])
def maskref4_Reaches.B6 : List Nat := [0, 1, 0, 4, 12, 28, 63, 0, 255, 0, 512, 0, 2048, 6144, 14336, 32256, 0, 130560, 262143, 524287]
theorem maskref4_Reaches.tab6 : rtab .any (opsOf Try.f20 6) = maskref4_Reaches.T6 := by kernel_rfl
theorem maskref4_Reaches.bits6 : waitsOk maskref4_Reaches.T6.2 maskref4_Reaches.B6 = true := by kernel_rfl
set_option maxHeartbeats 8000000 in
set_option maxRecDepth 100000 in
theorem maskref4_Reaches.calls (k : Nat) : ∀ (a0_0 : Int) (A0_1 : Option Addr) (c0_1 : Nat) (l0_1 : List Int) (A0_2 : Option Addr) (c0_2 : Nat) (l0_2 : List Int) (a1 : Int) (A2 : Option Addr) (c2 : Nat) (l2 : List (S32)) (A3 : Option Addr) (c3 : Nat) (l3 : List Int) (r1 : Int) (r2 : Int) (w : World) (hr0_1 : Kd.C (Kd.int .i64) w A0_1 l0_1.length l0_1) (hc0_1 : l0_1.length ≤ c0_1) (hr0_2 : Kd.C (Kd.int .i64) w A0_2 l0_2.length l0_2) (hc0_2 : l0_2.length ≤ c0_2) (hr2 : Kd.C k32 w A2 l2.length l2) (hc2 : l2.length ≤ c2) (hr3 : Kd.C (Kd.int .i64) w A3 l3.length l3) (hc3 : l3.length ≤ c3) (h : maskref4_Reaches.f k a0_0 l0_1 l0_2 a1 l2 l3 = some (r1, r2)),
 Calls Try.prog 20 #[.agg #[.int .i64 a0_0, .slice A0_1 l0_1.length c0_1, .slice A0_2 l0_2.length c0_2], .int .i64 a1, .slice A2 l2.length c2, .slice A3 l3.length c3] w fun e w' => e = .returned (.agg #[.int .i64 r1, .int .i64 r2]) ∧ Below w.heap.size w w' := by
 induction k using Nat.strongRecOn with
 | _ k ih =>
 intro a0_0 A0_1 c0_1 l0_1 A0_2 c0_2 l0_2 a1 A2 c2 l2 A3 c3 l3 r1 r2 w hr0_1 hc0_1 hr0_2 hc0_2 hr2 hc2 hr3 hc3 h
 cases k with
 | zero => exact absurd h (by simp [maskref4_Reaches.f])
 | succ k =>
 simp only [maskref4_Reaches.f] at h
 have hu24 := Try.underlying24
 have hu45 := Try.underlying45
 have hu32 := Try.underlying32
 have HR0_1 := Aside0.mk hr0_1
 have HC0_1 := Aside0.mk hc0_1
 clear hr0_1 hc0_1
 have HR0_2 := Aside0.mk hr0_2
 have HC0_2 := Aside0.mk hc0_2
 clear hr0_2 hc0_2
 have HR2 := Aside0.mk hr2
 have HC2 := Aside0.mk hc2
 clear hr2 hc2
 have HR3 := Aside0.mk hr3
 have HC3 := Aside0.mk hc3
 clear hr3 hc3
 have HB := Aside0.mk (Below.refl w.heap.size w)
 have H : (if a1 < 0 then (some (0, 0)) else (if 0 ≤ a1 then (if a1 < (l0_1.length : Int) then ((maskref4_Reaches.f k a0_0 l0_1 l0_2 (rd l0_1 a1) l2 l3).bind fun bt272 => (if 0 ≤ a0_0 then (if a0_0 < (l2.length : Int) then ((maskref4_LoadOf.f k a0_0 l0_1 l0_2 a1 l2 l3).bind fun t277 => (if 0 < (((rd_T32 l2 a0_0).f6).length : Int) then (if 0 < (((rd_T32 l2 a0_0).f7).length : Int) then (some (wrap64 ((wrap64 (bt272.1 + (rd ((rd_T32 l2 a0_0).f6) 0))) + (wrap64 (((rd_T32 l2 a0_0).f8) * t277))), wrap64 ((wrap64 (bt272.2 + (rd ((rd_T32 l2 a0_0).f7) 0))) + (wrap64 (((rd_T32 l2 a0_0).f8) * t277))))) else (none)) else (none))) else (none)) else (none))) else (none)) else (none))) = some (r1, r2) := h
 clear h
 by_cases c5 : a1 < 0
 · rw [if_pos c5] at H
   have c5b0 : decide (a1 < 0) = true := decide_eq_true c5
   clear c5
   simp only [Option.some.injEq, Prod.mk.injEq] at H
   obtain ⟨rfl, rfl⟩ := H
   go_enter Try.func20, Try.ntmps20
   go_wp2_with (first | ((with_reducible refine gate_dst (N := 4) rfl ?_); refine box_event ?hg (N := 4) ?hd (cs := #[.int .i64 a0_0, .slice A0_1 l0_1.length c0_1, .slice A0_2 l0_2.length c0_2]) (t := 24) ?hr ?_; (case hd => rfl); (case hg => rfl); (case hr => first | (go_simp; done) | (go_simp; rfl)); intro gb269 hg w6 hbox hb; have n0_ := Aside0.mk (below_step (by repeat (first | (with_reducible first | exact HB.out | apply below_alloc | apply pw_below_drewN | apply below_drew1) | exact HB.out)) hb); have n1_ := Aside0.mk (hbox); have n2_ := Aside0.mk ((by rw [hg]; exact (below_size (by repeat (first | (with_reducible first | exact HB.out | apply below_alloc | apply pw_below_drewN | apply below_drew1) | exact HB.out))) : w.heap.size ≤ gb269)); have n3_ := Aside0.mk ((by rw [hg]; exact (below_size (by repeat (first | (with_reducible first | exact HB.out | apply below_alloc | apply pw_below_drewN | apply below_drew1) | exact HB.out))) : w.heap.size ≤ gb269)); clear HB; have HB := n0_; have BK269 := n1_; have GW269 := n2_; have GE269 := n3_; clear n0_ n1_ n2_ n3_; clear hb hbox hg) | ((with_reducible refine gate_dst (N := 8) rfl ?_); refine box_event ?hg (N := 8) ?hd (cs := #[.int .i64 0, .int .i64 0]) (t := 45) ?hr ?_; (case hd => rfl); (case hg => rfl); (case hr => first | (go_simp; done) | (go_simp; rfl)); intro gb270 hg w7 hbox hb; have n0_ := Aside0.mk (blk_below (g := gb269) (o := .cells #[.int .i64 a0_0, .slice A0_1 l0_1.length c0_1, .slice A0_2 l0_2.length c0_2] 24 (0, 0)) (by (with_reducible repeat (first | refine blk_drewN ?_ _ | refine blk_drew ?_ | refine blk_alloc ?_ _)); exact BK269.out) hb); have n1_ := Aside0.mk (below_step (by repeat (first | (with_reducible first | exact HB.out | apply below_alloc | apply pw_below_drewN | apply below_drew1 | refine below_set ?_ GE269.out) | exact HB.out)) hb); have n2_ := Aside0.mk (hbox); have n3_ := Aside0.mk ((by rw [hg]; exact (below_size (by repeat (first | (with_reducible first | exact HB.out | apply below_alloc | apply pw_below_drewN | apply below_drew1 | refine below_set ?_ GE269.out) | exact HB.out))) : w.heap.size ≤ gb270)); have n4_ := Aside0.mk ((by rw [hg]; exact (below_size (by repeat (first | (with_reducible first | exact HB.out | apply below_alloc | apply pw_below_drewN | apply below_drew1 | refine below_set ?_ GE269.out) | exact HB.out))) : w.heap.size ≤ gb270)); have n5_ := Aside0.mk ((by rw [hg]; exact Nat.ne_of_lt (blk_lt (g := gb269) (o := .cells #[.int .i64 a0_0, .slice A0_1 l0_1.length c0_1, .slice A0_2 l0_2.length c0_2] 24 (0, 0)) (by (with_reducible repeat (first | refine blk_drewN ?_ _ | refine blk_drew ?_ | refine blk_alloc ?_ _)); exact BK269.out)) : gb269 ≠ gb270)); have n6_ := Aside0.mk ((by rw [hg]; exact Nat.ne_of_gt (blk_lt (g := gb269) (o := .cells #[.int .i64 a0_0, .slice A0_1 l0_1.length c0_1, .slice A0_2 l0_2.length c0_2] 24 (0, 0)) (by (with_reducible repeat (first | refine blk_drewN ?_ _ | refine blk_drew ?_ | refine blk_alloc ?_ _)); exact BK269.out)) : gb270 ≠ gb269)); clear BK269; clear HB; have BK269 := n0_; have HB := n1_; have BK270 := n2_; have GW270 := n3_; have GE270 := n4_; have NB269_270 := n5_; have NB270_269 := n6_; clear n0_ n1_ n2_ n3_ n4_ n5_ n6_; clear hb hbox hg; have hnb8 := NB270_269.out; have hnc8 := NB269_270.out; have hcz9_0 : w7.cell? ⟨gb270, 0, none⟩ = some (.int .i64 0) := (blk_cell BK270.out 0).trans rfl; have hcz9_1 : w7.cell? ⟨gb270, 1, none⟩ = some (.int .i64 0) := (blk_cell BK270.out 1).trans rfl; have hfz9_0 := blk_frozen BK270.out 0; have hfz9_1 := blk_frozen BK270.out 1))
   refine bodyPost_ret (results_cell_row rfl _ _ gb270 45 #[.int .i64 0, .int .i64 0] (0, 0) _ rfl (by (with_reducible repeat (first | refine blk_drewN ?_ _ | refine blk_drew ?_ | refine blk_alloc ?_ _)); refine blk_put (cs := #[.int .i64 0, .int .i64 0]) ?_ 1 _ rfl; (with_reducible repeat (first | refine blk_drewN ?_ _ | refine blk_drew ?_ | refine blk_alloc ?_ _)); refine blk_put (cs := #[.int .i64 0, .int .i64 0]) ?_ 0 _ rfl; (with_reducible repeat (first | refine blk_drewN ?_ _ | refine blk_drew ?_ | refine blk_alloc ?_ _)); exact BK270.out) Try.underlying45 rfl (by kernel_rfl)) rfl ?_
   exact ⟨by first | rfl | (simp [errW_none, errW_some] <;> rfl) | (simp [*, errW_none, errW_some] <;> rfl), by repeat (first | (with_reducible first | exact HB.out | apply below_alloc | apply pw_below_drewN | apply below_drew1 | refine below_set ?_ GE269.out | refine below_set ?_ GE270.out) | exact HB.out)⟩
 · rw [if_neg c5] at H
   have c5b0 : decide (a1 < 0) = false := decide_eq_false c5
   clear c5
   by_cases c10 : 0 ≤ a1
   · rw [if_pos c10] at H
     have c10b0 : decide (0 ≤ a1) = true := decide_eq_true c10
     clear c10
     by_cases c11 : a1 < (l0_1.length : Int)
     · rw [if_pos c11] at H
       have c11b0 : decide (a1 < (l0_1.length : Int)) = true := decide_eq_true c11
       clear c11
       replace H := Option.bind_eq_some_iff.mp H
       obtain ⟨⟨t272, t273⟩, A120, H⟩ := H
       replace H : (if 0 ≤ a0_0 then (if a0_0 < (l2.length : Int) then ((maskref4_LoadOf.f k a0_0 l0_1 l0_2 a1 l2 l3).bind fun t277 => (if 0 < (((rd_T32 l2 a0_0).f6).length : Int) then (if 0 < (((rd_T32 l2 a0_0).f7).length : Int) then (some (wrap64 ((wrap64 (t272 + (rd ((rd_T32 l2 a0_0).f6) 0))) + (wrap64 (((rd_T32 l2 a0_0).f8) * t277))), wrap64 ((wrap64 (t273 + (rd ((rd_T32 l2 a0_0).f7) 0))) + (wrap64 (((rd_T32 l2 a0_0).f8) * t277))))) else (none)) else (none))) else (none)) else (none)) = some (r1, r2) := H
       have A12 := Aside0.mk A120
       clear A120
       by_cases c13 : 0 ≤ a0_0
       · rw [if_pos c13] at H
         have c13b0 : decide (0 ≤ a0_0) = true := decide_eq_true c13
         clear c13
         by_cases c14 : a0_0 < (l2.length : Int)
         · rw [if_pos c14] at H
           have c14b0 : decide (a0_0 < (l2.length : Int)) = true := decide_eq_true c14
           clear c14
           replace H := Option.bind_eq_some_iff.mp H
           obtain ⟨t277, A150, H⟩ := H
           replace H : (if 0 < (((rd_T32 l2 a0_0).f6).length : Int) then (if 0 < (((rd_T32 l2 a0_0).f7).length : Int) then (some (wrap64 ((wrap64 (t272 + (rd ((rd_T32 l2 a0_0).f6) 0))) + (wrap64 (((rd_T32 l2 a0_0).f8) * t277))), wrap64 ((wrap64 (t273 + (rd ((rd_T32 l2 a0_0).f7) 0))) + (wrap64 (((rd_T32 l2 a0_0).f8) * t277))))) else (none)) else (none)) = some (r1, r2) := H
           have A15 := Aside0.mk A150
           clear A150
           by_cases c16 : 0 < (((rd_T32 l2 a0_0).f6).length : Int)
           · rw [if_pos c16] at H
             have c16b0 : decide (0 < (((rd_T32 l2 a0_0).f6).length : Int)) = true := decide_eq_true c16
             have c16b1 : decide (0 < ((rd_T32 l2 a0_0).f6).length) = true := decide_eq_true (by omega)
             clear c16
             by_cases c17 : 0 < (((rd_T32 l2 a0_0).f7).length : Int)
             · rw [if_pos c17] at H
               have c17b0 : decide (0 < (((rd_T32 l2 a0_0).f7).length : Int)) = true := decide_eq_true c17
               have c17b1 : decide (0 < ((rd_T32 l2 a0_0).f7).length) = true := decide_eq_true (by omega)
               clear c17
               simp only [Option.some.injEq, Prod.mk.injEq] at H
               obtain ⟨rfl, rfl⟩ := H
               go_enter Try.func20, Try.ntmps20
               try go_wp2_with (first | ((with_reducible refine gate_dst (N := 4) rfl ?_); refine box_event ?hg (N := 4) ?hd (cs := #[.int .i64 a0_0, .slice A0_1 l0_1.length c0_1, .slice A0_2 l0_2.length c0_2]) (t := 24) ?hr ?_; (case hd => rfl); (case hg => rfl); (case hr => first | (go_simp; done) | (go_simp; rfl)); intro gb269 hg w18 hbox hb; have n0_ := Aside0.mk (below_step (by repeat (first | (with_reducible first | exact HB.out | apply below_alloc | apply pw_below_drewN | apply below_drew1) | exact HB.out)) hb); have n1_ := Aside0.mk (hbox); have n2_ := Aside0.mk ((by rw [hg]; exact (below_size (by repeat (first | (with_reducible first | exact HB.out | apply below_alloc | apply pw_below_drewN | apply below_drew1) | exact HB.out))) : w.heap.size ≤ gb269)); have n3_ := Aside0.mk ((by rw [hg]; exact (below_size (by repeat (first | (with_reducible first | exact HB.out | apply below_alloc | apply pw_below_drewN | apply below_drew1) | exact HB.out))) : w.heap.size ≤ gb269)); clear HB; have HB := n0_; have BK269 := n1_; have GW269 := n2_; have GE269 := n3_; clear n0_ n1_ n2_ n3_; clear hb hbox hg) | ((with_reducible refine gate_dst (N := 8) rfl ?_); refine box_event ?hg (N := 8) ?hd (cs := #[.int .i64 0, .int .i64 0]) (t := 45) ?hr ?_; (case hd => rfl); (case hg => rfl); (case hr => first | (go_simp; done) | (go_simp; rfl)); intro gb270 hg w19 hbox hb; have n0_ := Aside0.mk (blk_below (g := gb269) (o := .cells #[.int .i64 a0_0, .slice A0_1 l0_1.length c0_1, .slice A0_2 l0_2.length c0_2] 24 (0, 0)) (by (with_reducible repeat (first | refine blk_drewN ?_ _ | refine blk_drew ?_ | refine blk_alloc ?_ _)); exact BK269.out) hb); have n1_ := Aside0.mk (below_step (by repeat (first | (with_reducible first | exact HB.out | apply below_alloc | apply pw_below_drewN | apply below_drew1 | refine below_set ?_ GE269.out) | exact HB.out)) hb); have n2_ := Aside0.mk (hbox); have n3_ := Aside0.mk ((by rw [hg]; exact (below_size (by repeat (first | (with_reducible first | exact HB.out | apply below_alloc | apply pw_below_drewN | apply below_drew1 | refine below_set ?_ GE269.out) | exact HB.out))) : w.heap.size ≤ gb270)); have n4_ := Aside0.mk ((by rw [hg]; exact (below_size (by repeat (first | (with_reducible first | exact HB.out | apply below_alloc | apply pw_below_drewN | apply below_drew1 | refine below_set ?_ GE269.out) | exact HB.out))) : w.heap.size ≤ gb270)); have n5_ := Aside0.mk ((by rw [hg]; exact Nat.ne_of_lt (blk_lt (g := gb269) (o := .cells #[.int .i64 a0_0, .slice A0_1 l0_1.length c0_1, .slice A0_2 l0_2.length c0_2] 24 (0, 0)) (by (with_reducible repeat (first | refine blk_drewN ?_ _ | refine blk_drew ?_ | refine blk_alloc ?_ _)); exact BK269.out)) : gb269 ≠ gb270)); have n6_ := Aside0.mk ((by rw [hg]; exact Nat.ne_of_gt (blk_lt (g := gb269) (o := .cells #[.int .i64 a0_0, .slice A0_1 l0_1.length c0_1, .slice A0_2 l0_2.length c0_2] 24 (0, 0)) (by (with_reducible repeat (first | refine blk_drewN ?_ _ | refine blk_drew ?_ | refine blk_alloc ?_ _)); exact BK269.out)) : gb270 ≠ gb269)); clear BK269; clear HB; have BK269 := n0_; have HB := n1_; have BK270 := n2_; have GW270 := n3_; have GE270 := n4_; have NB269_270 := n5_; have NB270_269 := n6_; clear n0_ n1_ n2_ n3_ n4_ n5_ n6_; clear hb hbox hg))
               have n0_ := Aside0.mk (blk_drew BK269.out)
               have n1_ := Aside0.mk (blk_drew BK270.out)
               have n2_ := Aside0.mk (below_drew1 HB.out)
               clear BK269
               clear BK270
               clear HB
               have BK269 := n0_
               have BK270 := n1_
               have HB := n2_
               clear n0_ n1_ n2_
               have p271 : 0 ≤ (a1 : Int) := of_decide_eq_true (by first | (with_reducible assumption) | assumption)
               have q271 : a1 < (l0_1.length : Int) := of_decide_eq_true (by first | (with_reducible assumption) | assumption)
               obtain ⟨ad271, e271, hx271_0⟩ := Kd.at_int HR0_1.out a1 p271 q271
               have hw271_0 := hx271_0
               cases e271
               replace hx271_0 := (HB.out.cell (World.block_lt_of_cell? w _ hx271_0)).trans hx271_0
               replace p271 := eq_true p271
               replace q271 := eq_true q271
               refine start_ (n := 11) (S := fun w' => w'.cell? ⟨gb269, 0, none⟩ = some (.int .i64 a0_0) ∧ w'.cell? ⟨gb269, 1, none⟩ = some (.slice (some ad271) l0_1.length c0_1) ∧ w'.cell? ⟨gb269, 2, none⟩ = some (.slice A0_2 l0_2.length c0_2) ∧ w'.cell? (ad271.add (a1).toNat) = some (.int .i64 (rd l0_1 a1))) (ds := []) (zb 0 11) (by kernel_rfl) rfl rfl ⟨(blk_cell BK269.out 0).trans rfl, (blk_cell BK269.out 1).trans rfl, (blk_cell BK269.out 2).trans rfl, ((HB.out.cell (World.block_lt_of_cell? w _ hw271_0)).trans hw271_0)⟩ (fun hHeld => ?_); refine with_tabW maskref4_Reaches.tab3 maskref4_Reaches.bits3 (fun HT_ HW_ => ?_)
               generalize w19.drew = w20 at BK269 BK270 HB hx271_0 hHeld ⊢
               refine pure_ (i := 1) (N := some 16) (v := ?_) (a' := ?_) #[false,true,false,false,false,false,false,false,false,false,false] rfl rfl (any_of HT_.out (by kernel_rfl)) (fun _ _ _ h => h) (Or.inl ⟨by rfl, ?_⟩) ?_ ?_
               rotate_left; focus (intro w'; go_simp; with_reducible rfl)
               rotate_left; focus (simp only [Act.put, z1, z2, z3, i64_w, i32_w]; rfl)
               refine pure_ (i := 3) (N := some 18) (v := ?_) (a' := ?_) #[false,true,false,true,false,false,false,false,false,false,false] rfl rfl (any_of HT_.out (by kernel_rfl)) (fun _ _ _ h => h) (Or.inl ⟨by rfl, ?_⟩) ?_ ?_
               rotate_left; focus (intro w'; go_simp; with_reducible rfl)
               rotate_left; focus (simp only [Act.put, z1, z2, z3, i64_w, i32_w]; rfl)
               refine pure_ (i := 6) (N := some 21) (v := ?_) (a' := ?_) #[false,true,false,true,false,false,true,false,false,false,false] rfl rfl (any_of HT_.out (by kernel_rfl)) (fun _ _ _ h => h) (Or.inl ⟨by rfl, ?_⟩) ?_ ?_
               rotate_left; focus (intro w'; go_simp; with_reducible rfl)
               rotate_left; focus (simp only [Act.put, z1, z2, z3, i64_w, i32_w]; rfl)
               refine pure_ (i := 7) (N := some 22) (v := ?_) (a' := ?_) #[false,true,false,true,false,false,true,true,false,false,false] rfl rfl (any_of HT_.out (by kernel_rfl)) (fun _ _ _ h => h) (Or.inl ⟨by rfl, ?_⟩) ?_ ?_
               rotate_left; focus (intro w'; go_simp; with_reducible rfl)
               rotate_left; focus (simp only [Act.put, z1, z2, z3, i64_w, i32_w]; rfl)
               refine take_ (i := 0) (N := some 15) (v := ?_) (a' := ?_) #[true,true,false,true,false,false,true,true,false,false,false] rfl rfl (take_ofW HT_.out HW_.out (by kernel_rfl)) (fun _ _ _ h => h) (Or.inl ⟨by rfl, ?_⟩) hHeld ?_ ?_
               rotate_left
               · rintro w' ⟨s0, s1, s2, s3⟩
                 go_simp
                 with_reducible rfl
               rotate_left; focus (simp only [Act.put, z1, z2, z3, i64_w, i32_w]; rfl)
               refine take_ (i := 2) (N := some 17) (v := ?_) (a' := ?_) #[true,true,true,true,false,false,true,true,false,false,false] rfl rfl (take_ofW HT_.out HW_.out (by kernel_rfl)) (fun _ _ _ h => h) (Or.inl ⟨by rfl, ?_⟩) hHeld ?_ ?_
               rotate_left
               · rintro w' ⟨s0, s1, s2, s3⟩
                 go_simp
                 with_reducible rfl
               rotate_left; focus (simp only [Act.put, z1, z2, z3, i64_w, i32_w]; rfl)
               refine pure_ (i := 4) (N := some 19) (v := ?_) (a' := ?_) #[true,true,true,true,true,false,true,true,false,false,false] rfl rfl (any_of HT_.out (by kernel_rfl)) (fun _ _ _ h => h) (Or.inl ⟨by rfl, ?_⟩) ?_ ?_
               rotate_left; focus (intro w'; go_simp; with_reducible rfl)
               rotate_left; focus (simp only [Act.put, z1, z2, z3, i64_w, i32_w]; rfl)
               refine take_ (i := 5) (N := some 20) (v := ?_) (a' := ?_) (zb 8 3) rfl rfl (take_ofW HT_.out HW_.out (by kernel_rfl)) (fun _ _ _ h => h) (Or.inl ⟨by rfl, ?_⟩) hHeld ?_ ?_
               rotate_left
               · rintro w' ⟨s0, s1, s2, s3⟩
                 go_simp
                 with_reducible rfl
               rotate_left; focus (simp only [Act.put, z1, z2, z3, i64_w, i32_w]; rfl)
               refine join_ (σ := Nat) 1 (zb 10 1) (fun s_ => [(23, .agg #[.int .i64 t272, .int .i64 t273]), (9, .pointer (some ⟨s_, 0, none⟩))]) (fun s_ w' => (w'.cell? ⟨gb269, 0, none⟩ = some (.int .i64 a0_0) ∧ w'.cell? ⟨gb269, 1, none⟩ = some (.slice (some ad271) l0_1.length c0_1) ∧ w'.cell? ⟨gb269, 2, none⟩ = some (.slice A0_2 l0_2.length c0_2) ∧ w'.cell? (ad271.add (a1).toNat) = some (.int .i64 (rd l0_1 a1))) ∧ (w'.heap[gb269]? = some (.cells #[.int .i64 a0_0, .slice (some ad271) l0_1.length c0_1, .slice A0_2 l0_2.length c0_2] 24 (0, 0))) ∧ (w'.heap[gb270]? = some (.cells #[.int .i64 0, .int .i64 0] 45 (0, 0))) ∧ (w'.heap[s_]? = some (.cells #[.int .i64 0, .int .i64 0] 45 (0, 0))) ∧ (w.heap.size ≤ s_) ∧ (w.heap.size ≤ s_) ∧ (gb269 ≠ s_) ∧ (s_ ≠ gb269) ∧ (gb270 ≠ s_) ∧ (s_ ≠ gb270) ∧ (Below w.heap.size w w')) ?_ ?_
               rotate_left
               · intro hCont
                 refine two_ (i := 8) (j := 9) (Ni := some 23) (Nj := some 9) (zb 9 2) #[true,true,true,true,true,true,true,true,false,true,false] rfl rfl rfl rfl (two_of HT_.out (by kernel_rfl)) (by decide) (by decide) (fun K hK => ?_) (fun K hK => ?_)
                 · skip
                   refine goes_ Try.func20 (by kernel_rfl) rfl #[.agg #[.int .i64 a0_0, .slice (some ad271) l0_1.length c0_1, .slice A0_2 l0_2.length c0_2], .int .i64 (rd l0_1 a1), .slice A2 l2.length c2, .slice A3 l3.length c3] (by rfl) rfl rfl (by (try simp only [List.map_toArray, List.map_cons, List.map_nil]); first | done | rfl | (simp only [List.length_drop, List.length_take]; rfl)) ?_
                   with_reducible refine (ih k (by omega) a0_0 _ _ l0_1 _ _ l0_2 (rd l0_1 a1) _ _ l2 _ _ l3 t272 t273 _ ?side1 ?side2 ?side3 ?side4 ?side5 ?side6 ?side7 ?side8 A12.out).mono ?_
                   (case side1 => repeat (first | exact (Kd.C_below HR0_1.out HB.out) | (with_reducible refine Kd.C_alloc ?_ _) | (with_reducible refine Kd.C_drewN ?_ _) | (with_reducible refine Kd.C_drew ?_)))
                   (case side2 => exact HC0_1.out)
                   (case side3 => repeat (first | exact (Kd.C_below HR0_2.out HB.out) | (with_reducible refine Kd.C_alloc ?_ _) | (with_reducible refine Kd.C_drewN ?_ _) | (with_reducible refine Kd.C_drew ?_)))
                   (case side4 => exact HC0_2.out)
                   (case side5 => repeat (first | exact (Kd.C_below HR2.out HB.out) | (with_reducible refine Kd.C_alloc ?_ _) | (with_reducible refine Kd.C_drewN ?_ _) | (with_reducible refine Kd.C_drew ?_)))
                   (case side6 => exact HC2.out)
                   (case side7 => repeat (first | exact (Kd.C_below HR3.out HB.out) | (with_reducible refine Kd.C_alloc ?_ _) | (with_reducible refine Kd.C_drewN ?_ _) | (with_reducible refine Kd.C_drew ?_)))
                   (case side8 => exact HC3.out)
                   rintro e w21 ⟨rfl, hb⟩
                   refine ⟨_, rfl, ?_⟩
                   have n0_ := Aside0.mk (blk_below (g := gb269) (o := .cells #[.int .i64 a0_0, .slice (some ad271) l0_1.length c0_1, .slice A0_2 l0_2.length c0_2] 24 (0, 0)) (by (with_reducible repeat (first | refine blk_drewN ?_ _ | refine blk_drew ?_ | refine blk_alloc ?_ _)); exact BK269.out) hb)
                   have n1_ := Aside0.mk (blk_below (g := gb270) (o := .cells #[.int .i64 0, .int .i64 0] 45 (0, 0)) (by (with_reducible repeat (first | refine blk_drewN ?_ _ | refine blk_drew ?_ | refine blk_alloc ?_ _)); exact BK270.out) hb)
                   have n2_ := Aside0.mk (below_step (by repeat (first | (with_reducible first | exact HB.out | apply below_alloc | apply pw_below_drewN | apply below_drew1 | refine below_set ?_ GE269.out | refine below_set ?_ GE270.out) | exact HB.out)) hb)
                   clear BK269
                   clear BK270
                   clear HB
                   have BK269 := n0_
                   have BK270 := n1_
                   have HB := n2_
                   clear n0_ n1_ n2_
                   (try clear hb)
                   (try clear hb2)
                   (try clear hk)
                   (try clear hi)
                   refine hK.out _ _ ⟨(blk_cell BK269.out 0).trans rfl, (blk_cell BK269.out 1).trans rfl, (blk_cell BK269.out 2).trans rfl, ((HB.out.cell (World.block_lt_of_cell? w _ hw271_0)).trans hw271_0)⟩ (fun hHeld => ?_)
                   clear hK K
                   refine norm_ (a' := ?_) ?_ ?_
                   rotate_left; focus (show Act.put _ (some 23) _ = _; simp only [Act.put, z1, z2, z3, i64_w, i32_w]; rfl)
                   refine one_ (i := 9) (N := some 9) (zb 10 1) rfl rfl (one_of HT_.out (by kernel_rfl)) (by decide) (fun K hK => ?_)
                   refine box_step ?hg (N := 9) ?hd (cs := #[.int .i64 0, .int .i64 0]) (t := 45) ?hr ?_; (case hd => rfl); (case hg => rfl); (case hr => first | (go_simp; done) | (go_simp; rfl))
                   intro gb274 hg w22 hbox hb
                   have n0_ := Aside0.mk (blk_below (g := gb269) (o := .cells #[.int .i64 a0_0, .slice (some ad271) l0_1.length c0_1, .slice A0_2 l0_2.length c0_2] 24 (0, 0)) (by (with_reducible repeat (first | refine blk_drewN ?_ _ | refine blk_drew ?_ | refine blk_alloc ?_ _)); exact BK269.out) hb)
                   have n1_ := Aside0.mk (blk_below (g := gb270) (o := .cells #[.int .i64 0, .int .i64 0] 45 (0, 0)) (by (with_reducible repeat (first | refine blk_drewN ?_ _ | refine blk_drew ?_ | refine blk_alloc ?_ _)); exact BK270.out) hb)
                   have n2_ := Aside0.mk (below_step (by repeat (first | (with_reducible first | exact HB.out | apply below_alloc | apply pw_below_drewN | apply below_drew1 | refine below_set ?_ GE269.out | refine below_set ?_ GE270.out) | exact HB.out)) hb)
                   have n3_ := Aside0.mk (hbox)
                   have n4_ := Aside0.mk ((by rw [hg]; exact (below_size (by repeat (first | (with_reducible first | exact HB.out | apply below_alloc | apply pw_below_drewN | apply below_drew1 | refine below_set ?_ GE269.out | refine below_set ?_ GE270.out) | exact HB.out))) : w.heap.size ≤ gb274))
                   have n5_ := Aside0.mk ((by rw [hg]; exact (below_size (by repeat (first | (with_reducible first | exact HB.out | apply below_alloc | apply pw_below_drewN | apply below_drew1 | refine below_set ?_ GE269.out | refine below_set ?_ GE270.out) | exact HB.out))) : w.heap.size ≤ gb274))
                   have n6_ := Aside0.mk ((by rw [hg]; exact Nat.ne_of_lt (blk_lt (g := gb269) (o := .cells #[.int .i64 a0_0, .slice (some ad271) l0_1.length c0_1, .slice A0_2 l0_2.length c0_2] 24 (0, 0)) (by (with_reducible repeat (first | refine blk_drewN ?_ _ | refine blk_drew ?_ | refine blk_alloc ?_ _)); exact BK269.out)) : gb269 ≠ gb274))
                   have n7_ := Aside0.mk ((by rw [hg]; exact Nat.ne_of_gt (blk_lt (g := gb269) (o := .cells #[.int .i64 a0_0, .slice (some ad271) l0_1.length c0_1, .slice A0_2 l0_2.length c0_2] 24 (0, 0)) (by (with_reducible repeat (first | refine blk_drewN ?_ _ | refine blk_drew ?_ | refine blk_alloc ?_ _)); exact BK269.out)) : gb274 ≠ gb269))
                   have n8_ := Aside0.mk ((by rw [hg]; exact Nat.ne_of_lt (blk_lt (g := gb270) (o := .cells #[.int .i64 0, .int .i64 0] 45 (0, 0)) (by (with_reducible repeat (first | refine blk_drewN ?_ _ | refine blk_drew ?_ | refine blk_alloc ?_ _)); exact BK270.out)) : gb270 ≠ gb274))
                   have n9_ := Aside0.mk ((by rw [hg]; exact Nat.ne_of_gt (blk_lt (g := gb270) (o := .cells #[.int .i64 0, .int .i64 0] 45 (0, 0)) (by (with_reducible repeat (first | refine blk_drewN ?_ _ | refine blk_drew ?_ | refine blk_alloc ?_ _)); exact BK270.out)) : gb274 ≠ gb270))
                   clear BK269
                   clear BK270
                   clear HB
                   have BK269 := n0_
                   have BK270 := n1_
                   have HB := n2_
                   have BK274 := n3_
                   have GW274 := n4_
                   have GE274 := n5_
                   have NB269_274 := n6_
                   have NB274_269 := n7_
                   have NB270_274 := n8_
                   have NB274_270 := n9_
                   clear n0_ n1_ n2_ n3_ n4_ n5_ n6_ n7_ n8_ n9_
                   clear hb hbox hg
                   refine hK.out _ _ ⟨(blk_cell BK269.out 0).trans rfl, (blk_cell BK269.out 1).trans rfl, (blk_cell BK269.out 2).trans rfl, ((HB.out.cell (World.block_lt_of_cell? w _ hw271_0)).trans hw271_0)⟩ (fun hHeld => ?_)
                   clear hK K
                   refine norm_ (a' := ?_) ?_ ?_
                   rotate_left; focus (show Act.put _ (some 9) _ = _; simp only [Act.put, z1, z2, z3, i64_w, i32_w]; rfl)
                   exact norm_ (by simp only [putAll, Act.put, z1, z2, z3]) (hCont (gb274) _ ⟨hHeld, (by (with_reducible repeat (first | refine blk_drewN ?_ _ | refine blk_drew ?_ | refine blk_alloc ?_ _)); exact BK269.out), (by (with_reducible repeat (first | refine blk_drewN ?_ _ | refine blk_drew ?_ | refine blk_alloc ?_ _)); exact BK270.out), (by (with_reducible repeat (first | refine blk_drewN ?_ _ | refine blk_drew ?_ | refine blk_alloc ?_ _)); exact BK274.out), GW274.out, GE274.out, NB269_274.out, NB274_269.out, NB270_274.out, NB274_270.out, (by repeat (first | (with_reducible first | exact HB.out | apply below_alloc | apply pw_below_drewN | apply below_drew1 | refine below_set ?_ GE269.out | refine below_set ?_ GE270.out | refine below_set ?_ GE274.out) | exact HB.out))⟩)
                 · skip
                   refine box_step ?hg (N := 9) ?hd (cs := #[.int .i64 0, .int .i64 0]) (t := 45) ?hr ?_; (case hd => rfl); (case hg => rfl); (case hr => first | (go_simp; done) | (go_simp; rfl))
                   intro gb274 hg w21 hbox hb
                   have n0_ := Aside0.mk (blk_below (g := gb269) (o := .cells #[.int .i64 a0_0, .slice (some ad271) l0_1.length c0_1, .slice A0_2 l0_2.length c0_2] 24 (0, 0)) (by (with_reducible repeat (first | refine blk_drewN ?_ _ | refine blk_drew ?_ | refine blk_alloc ?_ _)); exact BK269.out) hb)
                   have n1_ := Aside0.mk (blk_below (g := gb270) (o := .cells #[.int .i64 0, .int .i64 0] 45 (0, 0)) (by (with_reducible repeat (first | refine blk_drewN ?_ _ | refine blk_drew ?_ | refine blk_alloc ?_ _)); exact BK270.out) hb)
                   have n2_ := Aside0.mk (below_step (by repeat (first | (with_reducible first | exact HB.out | apply below_alloc | apply pw_below_drewN | apply below_drew1 | refine below_set ?_ GE269.out | refine below_set ?_ GE270.out) | exact HB.out)) hb)
                   have n3_ := Aside0.mk (hbox)
                   have n4_ := Aside0.mk ((by rw [hg]; exact (below_size (by repeat (first | (with_reducible first | exact HB.out | apply below_alloc | apply pw_below_drewN | apply below_drew1 | refine below_set ?_ GE269.out | refine below_set ?_ GE270.out) | exact HB.out))) : w.heap.size ≤ gb274))
                   have n5_ := Aside0.mk ((by rw [hg]; exact (below_size (by repeat (first | (with_reducible first | exact HB.out | apply below_alloc | apply pw_below_drewN | apply below_drew1 | refine below_set ?_ GE269.out | refine below_set ?_ GE270.out) | exact HB.out))) : w.heap.size ≤ gb274))
                   have n6_ := Aside0.mk ((by rw [hg]; exact Nat.ne_of_lt (blk_lt (g := gb269) (o := .cells #[.int .i64 a0_0, .slice (some ad271) l0_1.length c0_1, .slice A0_2 l0_2.length c0_2] 24 (0, 0)) (by (with_reducible repeat (first | refine blk_drewN ?_ _ | refine blk_drew ?_ | refine blk_alloc ?_ _)); exact BK269.out)) : gb269 ≠ gb274))
                   have n7_ := Aside0.mk ((by rw [hg]; exact Nat.ne_of_gt (blk_lt (g := gb269) (o := .cells #[.int .i64 a0_0, .slice (some ad271) l0_1.length c0_1, .slice A0_2 l0_2.length c0_2] 24 (0, 0)) (by (with_reducible repeat (first | refine blk_drewN ?_ _ | refine blk_drew ?_ | refine blk_alloc ?_ _)); exact BK269.out)) : gb274 ≠ gb269))
                   have n8_ := Aside0.mk ((by rw [hg]; exact Nat.ne_of_lt (blk_lt (g := gb270) (o := .cells #[.int .i64 0, .int .i64 0] 45 (0, 0)) (by (with_reducible repeat (first | refine blk_drewN ?_ _ | refine blk_drew ?_ | refine blk_alloc ?_ _)); exact BK270.out)) : gb270 ≠ gb274))
                   have n9_ := Aside0.mk ((by rw [hg]; exact Nat.ne_of_gt (blk_lt (g := gb270) (o := .cells #[.int .i64 0, .int .i64 0] 45 (0, 0)) (by (with_reducible repeat (first | refine blk_drewN ?_ _ | refine blk_drew ?_ | refine blk_alloc ?_ _)); exact BK270.out)) : gb274 ≠ gb270))
                   clear BK269
                   clear BK270
                   clear HB
                   have BK269 := n0_
                   have BK270 := n1_
                   have HB := n2_
                   have BK274 := n3_
                   have GW274 := n4_
                   have GE274 := n5_
                   have NB269_274 := n6_
                   have NB274_269 := n7_
                   have NB270_274 := n8_
                   have NB274_270 := n9_
                   clear n0_ n1_ n2_ n3_ n4_ n5_ n6_ n7_ n8_ n9_
                   clear hb hbox hg
                   refine hK.out _ _ ⟨(blk_cell BK269.out 0).trans rfl, (blk_cell BK269.out 1).trans rfl, (blk_cell BK269.out 2).trans rfl, ((HB.out.cell (World.block_lt_of_cell? w _ hw271_0)).trans hw271_0)⟩ (fun hHeld => ?_)
                   clear hK K
                   refine norm_ (a' := ?_) ?_ ?_
                   rotate_left; focus (show Act.put _ (some 9) _ = _; simp only [Act.put, z1, z2, z3, i64_w, i32_w]; rfl)
                   refine one_ (i := 8) (N := some 23) (zb 10 1) rfl rfl (one_of HT_.out (by kernel_rfl)) (by decide) (fun K hK => ?_)
                   refine goes_ Try.func20 (by kernel_rfl) rfl #[.agg #[.int .i64 a0_0, .slice (some ad271) l0_1.length c0_1, .slice A0_2 l0_2.length c0_2], .int .i64 (rd l0_1 a1), .slice A2 l2.length c2, .slice A3 l3.length c3] (by rfl) rfl rfl (by (try simp only [List.map_toArray, List.map_cons, List.map_nil]); first | done | rfl | (simp only [List.length_drop, List.length_take]; rfl)) ?_
                   with_reducible refine (ih k (by omega) a0_0 _ _ l0_1 _ _ l0_2 (rd l0_1 a1) _ _ l2 _ _ l3 t272 t273 _ ?side1 ?side2 ?side3 ?side4 ?side5 ?side6 ?side7 ?side8 A12.out).mono ?_
                   (case side1 => repeat (first | exact (Kd.C_below HR0_1.out HB.out) | (with_reducible refine Kd.C_alloc ?_ _) | (with_reducible refine Kd.C_drewN ?_ _) | (with_reducible refine Kd.C_drew ?_)))
                   (case side2 => exact HC0_1.out)
                   (case side3 => repeat (first | exact (Kd.C_below HR0_2.out HB.out) | (with_reducible refine Kd.C_alloc ?_ _) | (with_reducible refine Kd.C_drewN ?_ _) | (with_reducible refine Kd.C_drew ?_)))
                   (case side4 => exact HC0_2.out)
                   (case side5 => repeat (first | exact (Kd.C_below HR2.out HB.out) | (with_reducible refine Kd.C_alloc ?_ _) | (with_reducible refine Kd.C_drewN ?_ _) | (with_reducible refine Kd.C_drew ?_)))
                   (case side6 => exact HC2.out)
                   (case side7 => repeat (first | exact (Kd.C_below HR3.out HB.out) | (with_reducible refine Kd.C_alloc ?_ _) | (with_reducible refine Kd.C_drewN ?_ _) | (with_reducible refine Kd.C_drew ?_)))
                   (case side8 => exact HC3.out)
                   rintro e w22 ⟨rfl, hb⟩
                   refine ⟨_, rfl, ?_⟩
                   have n0_ := Aside0.mk (blk_below (g := gb269) (o := .cells #[.int .i64 a0_0, .slice (some ad271) l0_1.length c0_1, .slice A0_2 l0_2.length c0_2] 24 (0, 0)) (by (with_reducible repeat (first | refine blk_drewN ?_ _ | refine blk_drew ?_ | refine blk_alloc ?_ _)); exact BK269.out) hb)
                   have n1_ := Aside0.mk (blk_below (g := gb270) (o := .cells #[.int .i64 0, .int .i64 0] 45 (0, 0)) (by (with_reducible repeat (first | refine blk_drewN ?_ _ | refine blk_drew ?_ | refine blk_alloc ?_ _)); exact BK270.out) hb)
                   have n2_ := Aside0.mk (blk_below (g := gb274) (o := .cells #[.int .i64 0, .int .i64 0] 45 (0, 0)) (by (with_reducible repeat (first | refine blk_drewN ?_ _ | refine blk_drew ?_ | refine blk_alloc ?_ _)); exact BK274.out) hb)
                   have n3_ := Aside0.mk (below_step (by repeat (first | (with_reducible first | exact HB.out | apply below_alloc | apply pw_below_drewN | apply below_drew1 | refine below_set ?_ GE269.out | refine below_set ?_ GE270.out | refine below_set ?_ GE274.out) | exact HB.out)) hb)
                   clear BK269
                   clear BK270
                   clear BK274
                   clear HB
                   have BK269 := n0_
                   have BK270 := n1_
                   have BK274 := n2_
                   have HB := n3_
                   clear n0_ n1_ n2_ n3_
                   (try clear hb)
                   (try clear hb2)
                   (try clear hk)
                   (try clear hi)
                   refine hK.out _ _ ⟨(blk_cell BK269.out 0).trans rfl, (blk_cell BK269.out 1).trans rfl, (blk_cell BK269.out 2).trans rfl, ((HB.out.cell (World.block_lt_of_cell? w _ hw271_0)).trans hw271_0)⟩ (fun hHeld => ?_)
                   clear hK K
                   refine norm_ (a' := ?_) ?_ ?_
                   rotate_left; focus (show Act.put _ (some 23) _ = _; simp only [Act.put, z1, z2, z3, i64_w, i32_w]; rfl)
                   exact norm_ (by simp only [putAll, Act.put, z1, z2, z3]) (hCont (gb274) _ ⟨hHeld, (by (with_reducible repeat (first | refine blk_drewN ?_ _ | refine blk_drew ?_ | refine blk_alloc ?_ _)); exact BK269.out), (by (with_reducible repeat (first | refine blk_drewN ?_ _ | refine blk_drew ?_ | refine blk_alloc ?_ _)); exact BK270.out), (by (with_reducible repeat (first | refine blk_drewN ?_ _ | refine blk_drew ?_ | refine blk_alloc ?_ _)); exact BK274.out), GW274.out, GE274.out, NB269_274.out, NB274_269.out, NB270_274.out, NB274_270.out, (by repeat (first | (with_reducible first | exact HB.out | apply below_alloc | apply pw_below_drewN | apply below_drew1 | refine below_set ?_ GE269.out | refine below_set ?_ GE270.out | refine below_set ?_ GE274.out) | exact HB.out))⟩)
               rintro gb274 w23 ⟨hS_, h0_, h1_, h2_, h3_, h4_, h5_, h6_, h7_, h8_, h9_⟩
               have n0_ : Aside0 (w23.heap[gb269]? = some (.cells #[.int .i64 a0_0, .slice (some ad271) l0_1.length c0_1, .slice A0_2 l0_2.length c0_2] 24 (0, 0))) := ⟨h0_⟩
               have n1_ : Aside0 (w23.heap[gb270]? = some (.cells #[.int .i64 0, .int .i64 0] 45 (0, 0))) := ⟨h1_⟩
               have n2_ : Aside0 (w23.heap[gb274]? = some (.cells #[.int .i64 0, .int .i64 0] 45 (0, 0))) := ⟨h2_⟩
               have n3_ : Aside0 (w.heap.size ≤ gb274) := ⟨h3_⟩
               have n4_ : Aside0 (w.heap.size ≤ gb274) := ⟨h4_⟩
               have n5_ : Aside0 (gb269 ≠ gb274) := ⟨h5_⟩
               have n6_ : Aside0 (gb274 ≠ gb269) := ⟨h6_⟩
               have n7_ : Aside0 (gb270 ≠ gb274) := ⟨h7_⟩
               have n8_ : Aside0 (gb274 ≠ gb270) := ⟨h8_⟩
               have n9_ : Aside0 (Below w.heap.size w w23) := ⟨h9_⟩
               clear BK269
               clear BK270
               clear HB
               clear h0_ h1_ h2_ h3_ h4_ h5_ h6_ h7_ h8_ h9_
               have BK269 := n0_
               have BK270 := n1_
               have BK274 := n2_
               have GW274 := n3_
               have GE274 := n4_
               have NB269_274 := n5_
               have NB274_269 := n6_
               have NB270_274 := n7_
               have NB274_270 := n8_
               have HB := n9_
               clear n0_ n1_ n2_ n3_ n4_ n5_ n6_ n7_ n8_ n9_
               have hHeld : w23.cell? ⟨gb269, 0, none⟩ = some (.int .i64 a0_0) ∧ w23.cell? ⟨gb269, 1, none⟩ = some (.slice (some ad271) l0_1.length c0_1) ∧ w23.cell? ⟨gb269, 2, none⟩ = some (.slice A0_2 l0_2.length c0_2) ∧ w23.cell? (ad271.add (a1).toNat) = some (.int .i64 (rd l0_1 a1)) := hS_
               refine norm_ (a' := ?_) ?_ ?_
               rotate_left
               · simp only [putAll, Act.put, z1, z2, z3]
                 rfl
               refine one_ (i := 10) (N := none) (zb 11 0) rfl rfl (one_of HT_.out (by kernel_rfl)) (by decide) (fun K hK => ?_)
               have hs24 : w23.cell? ⟨gb274, 0, none⟩ = some (.int .i64 0) := (blk_cell BK274.out 0).trans rfl
               have hfs24 := blk_frozen BK274.out 0
               have hns24_0 := NB269_274.out
               have hns24_1 := NB270_274.out
               have hms24_0 := NB274_269.out
               have hms24_1 := NB274_270.out
               have hs25 : w23.cell? ⟨gb274, 1, none⟩ = some (.int .i64 0) := (blk_cell BK274.out 1).trans rfl
               have hfs25 := blk_frozen BK274.out 1
               have hns25_0 := NB269_274.out
               have hns25_1 := NB270_274.out
               have hms25_0 := NB274_269.out
               have hms25_1 := NB274_270.out
               refine skip_ (w1 := ?_) (by rfl) rfl ?_ ?_
               rotate_left; focus (go_simp; rfl)
               refine hK.out _ _ ⟨((cell_far (p := ⟨gb274, _, none⟩) NB269_274.out _).trans (((cell_far (p := ⟨gb274, _, none⟩) NB269_274.out _).trans (hHeld.1)))), ((cell_far (p := ⟨gb274, _, none⟩) NB269_274.out _).trans (((cell_far (p := ⟨gb274, _, none⟩) NB269_274.out _).trans (hHeld.2.1)))), ((cell_far (p := ⟨gb274, _, none⟩) NB269_274.out _).trans (((cell_far (p := ⟨gb274, _, none⟩) NB269_274.out _).trans (hHeld.2.2.1)))), ((cell_far (p := ⟨gb274, _, none⟩) (by first | exact Nat.ne_of_lt (Nat.lt_of_lt_of_le (by have := World.block_lt_of_cell? _ _ hw271_0; first | rwa [add_block] at this | exact this) GW274.out) | (rw [add_block]; exact Nat.ne_of_lt (Nat.lt_of_lt_of_le (by have := World.block_lt_of_cell? _ _ hw271_0; first | rwa [add_block] at this | exact this) GW274.out)) | (show (Addr.add _ _).block ≠ _; rw [add_block]; exact Nat.ne_of_lt (Nat.lt_of_lt_of_le (by have := World.block_lt_of_cell? _ _ hw271_0; first | rwa [add_block] at this | exact this) GW274.out)) | (dsimp only; exact Nat.ne_of_lt (Nat.lt_of_lt_of_le (by have := World.block_lt_of_cell? _ _ hw271_0; first | rwa [add_block] at this | exact this) GW274.out))) _).trans (((cell_far (p := ⟨gb274, _, none⟩) (by first | exact Nat.ne_of_lt (Nat.lt_of_lt_of_le (by have := World.block_lt_of_cell? _ _ hw271_0; first | rwa [add_block] at this | exact this) GW274.out) | (rw [add_block]; exact Nat.ne_of_lt (Nat.lt_of_lt_of_le (by have := World.block_lt_of_cell? _ _ hw271_0; first | rwa [add_block] at this | exact this) GW274.out)) | (show (Addr.add _ _).block ≠ _; rw [add_block]; exact Nat.ne_of_lt (Nat.lt_of_lt_of_le (by have := World.block_lt_of_cell? _ _ hw271_0; first | rwa [add_block] at this | exact this) GW274.out)) | (dsimp only; exact Nat.ne_of_lt (Nat.lt_of_lt_of_le (by have := World.block_lt_of_cell? _ _ hw271_0; first | rwa [add_block] at this | exact this) GW274.out))) _).trans (hHeld.2.2.2))))⟩ (fun hHeld => ?_)
               clear hK K
               refine done_ (done_of HT_.out (by kernel_rfl)) ?_
               have hnb26 := NB269_270.out
               have hnc26 := NB270_269.out
               have hnb27 := NB269_274.out
               have hnc27 := NB274_269.out
               have hcz28_0 : w23.cell? ⟨gb269, 0, none⟩ = some (.int .i64 a0_0) := (blk_cell BK269.out 0).trans rfl
               have hcz28_1 : w23.cell? ⟨gb269, 1, none⟩ = some (.slice (some ad271) l0_1.length c0_1) := (blk_cell BK269.out 1).trans rfl
               have hcz28_2 : w23.cell? ⟨gb269, 2, none⟩ = some (.slice A0_2 l0_2.length c0_2) := (blk_cell BK269.out 2).trans rfl
               have hfz28_0 := blk_frozen BK269.out 0
               have hfz28_1 := blk_frozen BK269.out 1
               have hfz28_2 := blk_frozen BK269.out 2
               have p275 : 0 ≤ (a0_0 : Int) := of_decide_eq_true (by first | (with_reducible assumption) | assumption)
               have q275 : a0_0 < (l2.length : Int) := of_decide_eq_true (by first | (with_reducible assumption) | assumption)
               obtain ⟨ad275, A275_5, c275_5, A275_6, c275_6, A275_7, c275_7, e275, hx275_0, hx275_1, hx275_2, hx275_3, hx275_4, hx275_5, hx275_6, hx275_7, hx275_8, hx275_9, hx275_10, hl275_5, hi275_5, hl275_6, hi275_6, hl275_7, hi275_7⟩ := at_T32 HR2.out a0_0 p275 q275
               cases e275
               have hn275_0 : ad275.block ≠ gb274 := Nat.ne_of_lt (Nat.lt_of_lt_of_le (by have := World.block_lt_of_cell? _ _ hx275_0; first | rwa [add_block] at this | exact this) GW274.out)
               have hn275_1 : ad275.block ≠ gb274 := Nat.ne_of_lt (Nat.lt_of_lt_of_le (by have := World.block_lt_of_cell? _ _ hx275_0; first | rwa [add_block] at this | exact this) GW274.out)
               replace hx275_0 := (HB.out.cell (World.block_lt_of_cell? w _ hx275_0)).trans hx275_0
               replace hx275_1 := (HB.out.cell (World.block_lt_of_cell? w _ hx275_1)).trans hx275_1
               replace hx275_2 := (HB.out.cell (World.block_lt_of_cell? w _ hx275_2)).trans hx275_2
               replace hx275_3 := (HB.out.cell (World.block_lt_of_cell? w _ hx275_3)).trans hx275_3
               replace hx275_4 := (HB.out.cell (World.block_lt_of_cell? w _ hx275_4)).trans hx275_4
               replace hx275_5 := (HB.out.cell (World.block_lt_of_cell? w _ hx275_5)).trans hx275_5
               replace hx275_6 := (HB.out.cell (World.block_lt_of_cell? w _ hx275_6)).trans hx275_6
               replace hx275_7 := (HB.out.cell (World.block_lt_of_cell? w _ hx275_7)).trans hx275_7
               replace hx275_8 := (HB.out.cell (World.block_lt_of_cell? w _ hx275_8)).trans hx275_8
               replace hx275_9 := (HB.out.cell (World.block_lt_of_cell? w _ hx275_9)).trans hx275_9
               replace hx275_10 := (HB.out.cell (World.block_lt_of_cell? w _ hx275_10)).trans hx275_10
               have HR275_5 := Aside0.mk hi275_5
               have HC275_5 := Aside0.mk hl275_5
               clear hi275_5 hl275_5
               have HR275_6 := Aside0.mk hi275_6
               have HC275_6 := Aside0.mk hl275_6
               clear hi275_6 hl275_6
               have HR275_7 := Aside0.mk hi275_7
               have HC275_7 := Aside0.mk hl275_7
               clear hi275_7 hl275_7
               replace hx275_0 := (cell_far (p := ⟨gb274, 0, none⟩) (by first | (rw [add_block]; exact hn275_0) | (show (Addr.add _ _).block ≠ _; rw [add_block]; exact hn275_0) | exact hn275_0) (.int .i64 t272)).trans hx275_0
               replace hx275_1 := (cell_far (p := ⟨gb274, 0, none⟩) (by first | (rw [add_block]; exact hn275_0) | (show (Addr.add _ _).block ≠ _; rw [add_block]; exact hn275_0) | exact hn275_0) (.int .i64 t272)).trans hx275_1
               replace hx275_2 := (cell_far (p := ⟨gb274, 0, none⟩) (by first | (rw [add_block]; exact hn275_0) | (show (Addr.add _ _).block ≠ _; rw [add_block]; exact hn275_0) | exact hn275_0) (.int .i64 t272)).trans hx275_2
               replace hx275_3 := (cell_far (p := ⟨gb274, 0, none⟩) (by first | (rw [add_block]; exact hn275_0) | (show (Addr.add _ _).block ≠ _; rw [add_block]; exact hn275_0) | exact hn275_0) (.int .i64 t272)).trans hx275_3
               replace hx275_4 := (cell_far (p := ⟨gb274, 0, none⟩) (by first | (rw [add_block]; exact hn275_0) | (show (Addr.add _ _).block ≠ _; rw [add_block]; exact hn275_0) | exact hn275_0) (.int .i64 t272)).trans hx275_4
               replace hx275_5 := (cell_far (p := ⟨gb274, 0, none⟩) (by first | (rw [add_block]; exact hn275_0) | (show (Addr.add _ _).block ≠ _; rw [add_block]; exact hn275_0) | exact hn275_0) (.int .i64 t272)).trans hx275_5
               replace hx275_6 := (cell_far (p := ⟨gb274, 0, none⟩) (by first | (rw [add_block]; exact hn275_0) | (show (Addr.add _ _).block ≠ _; rw [add_block]; exact hn275_0) | exact hn275_0) (.int .i64 t272)).trans hx275_6
               replace hx275_7 := (cell_far (p := ⟨gb274, 0, none⟩) (by first | (rw [add_block]; exact hn275_0) | (show (Addr.add _ _).block ≠ _; rw [add_block]; exact hn275_0) | exact hn275_0) (.int .i64 t272)).trans hx275_7
               replace hx275_8 := (cell_far (p := ⟨gb274, 0, none⟩) (by first | (rw [add_block]; exact hn275_0) | (show (Addr.add _ _).block ≠ _; rw [add_block]; exact hn275_0) | exact hn275_0) (.int .i64 t272)).trans hx275_8
               replace hx275_9 := (cell_far (p := ⟨gb274, 0, none⟩) (by first | (rw [add_block]; exact hn275_0) | (show (Addr.add _ _).block ≠ _; rw [add_block]; exact hn275_0) | exact hn275_0) (.int .i64 t272)).trans hx275_9
               replace hx275_10 := (cell_far (p := ⟨gb274, 0, none⟩) (by first | (rw [add_block]; exact hn275_0) | (show (Addr.add _ _).block ≠ _; rw [add_block]; exact hn275_0) | exact hn275_0) (.int .i64 t272)).trans hx275_10
               replace hx275_0 := (cell_far (p := ⟨gb274, 1, none⟩) (by first | (rw [add_block]; exact hn275_1) | (show (Addr.add _ _).block ≠ _; rw [add_block]; exact hn275_1) | exact hn275_1) (.int .i64 t273)).trans hx275_0
               replace hx275_1 := (cell_far (p := ⟨gb274, 1, none⟩) (by first | (rw [add_block]; exact hn275_1) | (show (Addr.add _ _).block ≠ _; rw [add_block]; exact hn275_1) | exact hn275_1) (.int .i64 t273)).trans hx275_1
               replace hx275_2 := (cell_far (p := ⟨gb274, 1, none⟩) (by first | (rw [add_block]; exact hn275_1) | (show (Addr.add _ _).block ≠ _; rw [add_block]; exact hn275_1) | exact hn275_1) (.int .i64 t273)).trans hx275_2
               replace hx275_3 := (cell_far (p := ⟨gb274, 1, none⟩) (by first | (rw [add_block]; exact hn275_1) | (show (Addr.add _ _).block ≠ _; rw [add_block]; exact hn275_1) | exact hn275_1) (.int .i64 t273)).trans hx275_3
               replace hx275_4 := (cell_far (p := ⟨gb274, 1, none⟩) (by first | (rw [add_block]; exact hn275_1) | (show (Addr.add _ _).block ≠ _; rw [add_block]; exact hn275_1) | exact hn275_1) (.int .i64 t273)).trans hx275_4
               replace hx275_5 := (cell_far (p := ⟨gb274, 1, none⟩) (by first | (rw [add_block]; exact hn275_1) | (show (Addr.add _ _).block ≠ _; rw [add_block]; exact hn275_1) | exact hn275_1) (.int .i64 t273)).trans hx275_5
               replace hx275_6 := (cell_far (p := ⟨gb274, 1, none⟩) (by first | (rw [add_block]; exact hn275_1) | (show (Addr.add _ _).block ≠ _; rw [add_block]; exact hn275_1) | exact hn275_1) (.int .i64 t273)).trans hx275_6
               replace hx275_7 := (cell_far (p := ⟨gb274, 1, none⟩) (by first | (rw [add_block]; exact hn275_1) | (show (Addr.add _ _).block ≠ _; rw [add_block]; exact hn275_1) | exact hn275_1) (.int .i64 t273)).trans hx275_7
               replace hx275_8 := (cell_far (p := ⟨gb274, 1, none⟩) (by first | (rw [add_block]; exact hn275_1) | (show (Addr.add _ _).block ≠ _; rw [add_block]; exact hn275_1) | exact hn275_1) (.int .i64 t273)).trans hx275_8
               replace hx275_9 := (cell_far (p := ⟨gb274, 1, none⟩) (by first | (rw [add_block]; exact hn275_1) | (show (Addr.add _ _).block ≠ _; rw [add_block]; exact hn275_1) | exact hn275_1) (.int .i64 t273)).trans hx275_9
               replace hx275_10 := (cell_far (p := ⟨gb274, 1, none⟩) (by first | (rw [add_block]; exact hn275_1) | (show (Addr.add _ _).block ≠ _; rw [add_block]; exact hn275_1) | exact hn275_1) (.int .i64 t273)).trans hx275_10
               clear hn275_0
               clear hn275_1
               replace p275 := eq_true p275
               replace q275 := eq_true q275
               try go_wp2_with ((with_reducible refine gate_dst (N := 10) rfl ?_); refine box_event ?hg (N := 10) ?hd (cs := #[.string (⟨#[]⟩ : ByteArray), .bool false, .int .i64 0, .int .u64 0, .int .i64 0, .slice none 0 0, .slice none 0 0, .slice none 0 0, .int .i64 0, .int .i64 0, .int .i64 0]) (t := 32) ?hr ?_; (case hd => rfl); (case hg => rfl); (case hr => first | (go_simp; done) | (go_simp; rfl)); intro gb276 hg w29 hbox hb; have n0_ := Aside0.mk (blk_below (g := gb269) (o := .cells #[.int .i64 a0_0, .slice (some ad271) l0_1.length c0_1, .slice A0_2 l0_2.length c0_2] 24 (0, 0)) (by (with_reducible repeat (first | refine blk_drewN ?_ _ | refine blk_drew ?_ | refine blk_alloc ?_ _)); refine blk_far ?_ NB269_274.out _; (with_reducible repeat (first | refine blk_drewN ?_ _ | refine blk_drew ?_ | refine blk_alloc ?_ _)); refine blk_far ?_ NB269_274.out _; (with_reducible repeat (first | refine blk_drewN ?_ _ | refine blk_drew ?_ | refine blk_alloc ?_ _)); exact BK269.out) hb); have n1_ := Aside0.mk (blk_below (g := gb270) (o := .cells #[.int .i64 0, .int .i64 0] 45 (0, 0)) (by (with_reducible repeat (first | refine blk_drewN ?_ _ | refine blk_drew ?_ | refine blk_alloc ?_ _)); refine blk_far ?_ NB270_274.out _; (with_reducible repeat (first | refine blk_drewN ?_ _ | refine blk_drew ?_ | refine blk_alloc ?_ _)); refine blk_far ?_ NB270_274.out _; (with_reducible repeat (first | refine blk_drewN ?_ _ | refine blk_drew ?_ | refine blk_alloc ?_ _)); exact BK270.out) hb); have n2_ := Aside0.mk (blk_below (g := gb274) (o := .cells #[.int .i64 t272, .int .i64 t273] 45 (0, 0)) (by (with_reducible repeat (first | refine blk_drewN ?_ _ | refine blk_drew ?_ | refine blk_alloc ?_ _)); refine blk_put (cs := #[.int .i64 t272, .int .i64 0]) ?_ 1 _ rfl; (with_reducible repeat (first | refine blk_drewN ?_ _ | refine blk_drew ?_ | refine blk_alloc ?_ _)); refine blk_put (cs := #[.int .i64 0, .int .i64 0]) ?_ 0 _ rfl; (with_reducible repeat (first | refine blk_drewN ?_ _ | refine blk_drew ?_ | refine blk_alloc ?_ _)); exact BK274.out) hb); have n3_ := Aside0.mk (below_step (by repeat (first | (with_reducible first | exact HB.out | apply below_alloc | apply pw_below_drewN | apply below_drew1 | refine below_set ?_ GE269.out | refine below_set ?_ GE270.out | refine below_set ?_ GE274.out) | exact HB.out)) hb); have n4_ := Aside0.mk (hbox); have n5_ := Aside0.mk ((by rw [hg]; exact (below_size (by repeat (first | (with_reducible first | exact HB.out | apply below_alloc | apply pw_below_drewN | apply below_drew1 | refine below_set ?_ GE269.out | refine below_set ?_ GE270.out | refine below_set ?_ GE274.out) | exact HB.out))) : w.heap.size ≤ gb276)); have n6_ := Aside0.mk ((by rw [hg]; exact (below_size (by repeat (first | (with_reducible first | exact HB.out | apply below_alloc | apply pw_below_drewN | apply below_drew1 | refine below_set ?_ GE269.out | refine below_set ?_ GE270.out | refine below_set ?_ GE274.out) | exact HB.out))) : w.heap.size ≤ gb276)); have n7_ := Aside0.mk ((by rw [hg]; exact Nat.ne_of_lt (blk_lt (g := gb269) (o := .cells #[.int .i64 a0_0, .slice (some ad271) l0_1.length c0_1, .slice A0_2 l0_2.length c0_2] 24 (0, 0)) (by (with_reducible repeat (first | refine blk_drewN ?_ _ | refine blk_drew ?_ | refine blk_alloc ?_ _)); refine blk_far ?_ NB269_274.out _; (with_reducible repeat (first | refine blk_drewN ?_ _ | refine blk_drew ?_ | refine blk_alloc ?_ _)); refine blk_far ?_ NB269_274.out _; (with_reducible repeat (first | refine blk_drewN ?_ _ | refine blk_drew ?_ | refine blk_alloc ?_ _)); exact BK269.out)) : gb269 ≠ gb276)); have n8_ := Aside0.mk ((by rw [hg]; exact Nat.ne_of_gt (blk_lt (g := gb269) (o := .cells #[.int .i64 a0_0, .slice (some ad271) l0_1.length c0_1, .slice A0_2 l0_2.length c0_2] 24 (0, 0)) (by (with_reducible repeat (first | refine blk_drewN ?_ _ | refine blk_drew ?_ | refine blk_alloc ?_ _)); refine blk_far ?_ NB269_274.out _; (with_reducible repeat (first | refine blk_drewN ?_ _ | refine blk_drew ?_ | refine blk_alloc ?_ _)); refine blk_far ?_ NB269_274.out _; (with_reducible repeat (first | refine blk_drewN ?_ _ | refine blk_drew ?_ | refine blk_alloc ?_ _)); exact BK269.out)) : gb276 ≠ gb269)); have n9_ := Aside0.mk ((by rw [hg]; exact Nat.ne_of_lt (blk_lt (g := gb270) (o := .cells #[.int .i64 0, .int .i64 0] 45 (0, 0)) (by (with_reducible repeat (first | refine blk_drewN ?_ _ | refine blk_drew ?_ | refine blk_alloc ?_ _)); refine blk_far ?_ NB270_274.out _; (with_reducible repeat (first | refine blk_drewN ?_ _ | refine blk_drew ?_ | refine blk_alloc ?_ _)); refine blk_far ?_ NB270_274.out _; (with_reducible repeat (first | refine blk_drewN ?_ _ | refine blk_drew ?_ | refine blk_alloc ?_ _)); exact BK270.out)) : gb270 ≠ gb276)); have n10_ := Aside0.mk ((by rw [hg]; exact Nat.ne_of_gt (blk_lt (g := gb270) (o := .cells #[.int .i64 0, .int .i64 0] 45 (0, 0)) (by (with_reducible repeat (first | refine blk_drewN ?_ _ | refine blk_drew ?_ | refine blk_alloc ?_ _)); refine blk_far ?_ NB270_274.out _; (with_reducible repeat (first | refine blk_drewN ?_ _ | refine blk_drew ?_ | refine blk_alloc ?_ _)); refine blk_far ?_ NB270_274.out _; (with_reducible repeat (first | refine blk_drewN ?_ _ | refine blk_drew ?_ | refine blk_alloc ?_ _)); exact BK270.out)) : gb276 ≠ gb270)); have n11_ := Aside0.mk ((by rw [hg]; exact Nat.ne_of_lt (blk_lt (g := gb274) (o := .cells #[.int .i64 t272, .int .i64 t273] 45 (0, 0)) (by (with_reducible repeat (first | refine blk_drewN ?_ _ | refine blk_drew ?_ | refine blk_alloc ?_ _)); refine blk_put (cs := #[.int .i64 t272, .int .i64 0]) ?_ 1 _ rfl; (with_reducible repeat (first | refine blk_drewN ?_ _ | refine blk_drew ?_ | refine blk_alloc ?_ _)); refine blk_put (cs := #[.int .i64 0, .int .i64 0]) ?_ 0 _ rfl; (with_reducible repeat (first | refine blk_drewN ?_ _ | refine blk_drew ?_ | refine blk_alloc ?_ _)); exact BK274.out)) : gb274 ≠ gb276)); have n12_ := Aside0.mk ((by rw [hg]; exact Nat.ne_of_gt (blk_lt (g := gb274) (o := .cells #[.int .i64 t272, .int .i64 t273] 45 (0, 0)) (by (with_reducible repeat (first | refine blk_drewN ?_ _ | refine blk_drew ?_ | refine blk_alloc ?_ _)); refine blk_put (cs := #[.int .i64 t272, .int .i64 0]) ?_ 1 _ rfl; (with_reducible repeat (first | refine blk_drewN ?_ _ | refine blk_drew ?_ | refine blk_alloc ?_ _)); refine blk_put (cs := #[.int .i64 0, .int .i64 0]) ?_ 0 _ rfl; (with_reducible repeat (first | refine blk_drewN ?_ _ | refine blk_drew ?_ | refine blk_alloc ?_ _)); exact BK274.out)) : gb276 ≠ gb274)); clear BK269; clear BK270; clear BK274; clear HB; have BK269 := n0_; have BK270 := n1_; have BK274 := n2_; have HB := n3_; have BK276 := n4_; have GW276 := n5_; have GE276 := n6_; have NB269_276 := n7_; have NB276_269 := n8_; have NB270_276 := n9_; have NB276_270 := n10_; have NB274_276 := n11_; have NB276_274 := n12_; clear n0_ n1_ n2_ n3_ n4_ n5_ n6_ n7_ n8_ n9_ n10_ n11_ n12_; clear hb hbox hg; have hnb30 := NB276_269.out; have hnc30 := NB269_276.out; have hnb31 := NB276_270.out; have hnc31 := NB270_276.out; have hnb32 := NB276_274.out; have hnc32 := NB274_276.out; have hcz33_0 : w29.cell? ⟨gb276, 0, none⟩ = some (.string (⟨#[]⟩ : ByteArray)) := (blk_cell BK276.out 0).trans rfl; have hcz33_1 : w29.cell? ⟨gb276, 1, none⟩ = some (.bool false) := (blk_cell BK276.out 1).trans rfl; have hcz33_2 : w29.cell? ⟨gb276, 2, none⟩ = some (.int .i64 0) := (blk_cell BK276.out 2).trans rfl; have hcz33_3 : w29.cell? ⟨gb276, 3, none⟩ = some (.int .u64 0) := (blk_cell BK276.out 3).trans rfl; have hcz33_4 : w29.cell? ⟨gb276, 4, none⟩ = some (.int .i64 0) := (blk_cell BK276.out 4).trans rfl; have hcz33_5 : w29.cell? ⟨gb276, 5, none⟩ = some (.slice none 0 0) := (blk_cell BK276.out 5).trans rfl; have hcz33_6 : w29.cell? ⟨gb276, 6, none⟩ = some (.slice none 0 0) := (blk_cell BK276.out 6).trans rfl; have hcz33_7 : w29.cell? ⟨gb276, 7, none⟩ = some (.slice none 0 0) := (blk_cell BK276.out 7).trans rfl; have hcz33_8 : w29.cell? ⟨gb276, 8, none⟩ = some (.int .i64 0) := (blk_cell BK276.out 8).trans rfl; have hcz33_9 : w29.cell? ⟨gb276, 9, none⟩ = some (.int .i64 0) := (blk_cell BK276.out 9).trans rfl; have hcz33_10 : w29.cell? ⟨gb276, 10, none⟩ = some (.int .i64 0) := (blk_cell BK276.out 10).trans rfl; have hfz33_0 := blk_frozen BK276.out 0; have hfz33_1 := blk_frozen BK276.out 1; have hfz33_2 := blk_frozen BK276.out 2; have hfz33_3 := blk_frozen BK276.out 3; have hfz33_4 := blk_frozen BK276.out 4; have hfz33_5 := blk_frozen BK276.out 5; have hfz33_6 := blk_frozen BK276.out 6; have hfz33_7 := blk_frozen BK276.out 7; have hfz33_8 := blk_frozen BK276.out 8; have hfz33_9 := blk_frozen BK276.out 9; have hfz33_10 := blk_frozen BK276.out 10)
               have n0_ : Aside0 ((((((((((((w29.setCell ⟨gb276, 0, none⟩ (.string ((rd_T32 l2 a0_0).f0))).setCell ⟨gb276, 1, none⟩ (.bool ((rd_T32 l2 a0_0).f1))).setCell ⟨gb276, 2, none⟩ (.int .i64 ((rd_T32 l2 a0_0).f2))).setCell ⟨gb276, 3, none⟩ (.int .u64 ((rd_T32 l2 a0_0).f3))).setCell ⟨gb276, 4, none⟩ (.int .i64 ((rd_T32 l2 a0_0).f4))).setCell ⟨gb276, 5, none⟩ (.slice A275_5 ((rd_T32 l2 a0_0).f5).length c275_5)).setCell ⟨gb276, 6, none⟩ (.slice A275_6 ((rd_T32 l2 a0_0).f6).length c275_6)).setCell ⟨gb276, 7, none⟩ (.slice A275_7 ((rd_T32 l2 a0_0).f7).length c275_7)).setCell ⟨gb276, 8, none⟩ (.int .i64 ((rd_T32 l2 a0_0).f8))).setCell ⟨gb276, 9, none⟩ (.int .i64 ((rd_T32 l2 a0_0).f9))).setCell ⟨gb276, 10, none⟩ (.int .i64 ((rd_T32 l2 a0_0).f10))).heap[gb269]? = some (.cells #[.int .i64 a0_0, .slice (some ad271) l0_1.length c0_1, .slice A0_2 l0_2.length c0_2] 24 (0, 0))) := ⟨by (with_reducible repeat (first | refine blk_drewN ?_ _ | refine blk_drew ?_ | refine blk_alloc ?_ _)); refine blk_far ?_ NB269_276.out _; (with_reducible repeat (first | refine blk_drewN ?_ _ | refine blk_drew ?_ | refine blk_alloc ?_ _)); refine blk_far ?_ NB269_276.out _; (with_reducible repeat (first | refine blk_drewN ?_ _ | refine blk_drew ?_ | refine blk_alloc ?_ _)); refine blk_far ?_ NB269_276.out _; (with_reducible repeat (first | refine blk_drewN ?_ _ | refine blk_drew ?_ | refine blk_alloc ?_ _)); refine blk_far ?_ NB269_276.out _; (with_reducible repeat (first | refine blk_drewN ?_ _ | refine blk_drew ?_ | refine blk_alloc ?_ _)); refine blk_far ?_ NB269_276.out _; (with_reducible repeat (first | refine blk_drewN ?_ _ | refine blk_drew ?_ | refine blk_alloc ?_ _)); refine blk_far ?_ NB269_276.out _; (with_reducible repeat (first | refine blk_drewN ?_ _ | refine blk_drew ?_ | refine blk_alloc ?_ _)); refine blk_far ?_ NB269_276.out _; (with_reducible repeat (first | refine blk_drewN ?_ _ | refine blk_drew ?_ | refine blk_alloc ?_ _)); refine blk_far ?_ NB269_276.out _; (with_reducible repeat (first | refine blk_drewN ?_ _ | refine blk_drew ?_ | refine blk_alloc ?_ _)); refine blk_far ?_ NB269_276.out _; (with_reducible repeat (first | refine blk_drewN ?_ _ | refine blk_drew ?_ | refine blk_alloc ?_ _)); refine blk_far ?_ NB269_276.out _; (with_reducible repeat (first | refine blk_drewN ?_ _ | refine blk_drew ?_ | refine blk_alloc ?_ _)); refine blk_far ?_ NB269_276.out _; (with_reducible repeat (first | refine blk_drewN ?_ _ | refine blk_drew ?_ | refine blk_alloc ?_ _)); exact BK269.out⟩
               have n1_ : Aside0 ((((((((((((w29.setCell ⟨gb276, 0, none⟩ (.string ((rd_T32 l2 a0_0).f0))).setCell ⟨gb276, 1, none⟩ (.bool ((rd_T32 l2 a0_0).f1))).setCell ⟨gb276, 2, none⟩ (.int .i64 ((rd_T32 l2 a0_0).f2))).setCell ⟨gb276, 3, none⟩ (.int .u64 ((rd_T32 l2 a0_0).f3))).setCell ⟨gb276, 4, none⟩ (.int .i64 ((rd_T32 l2 a0_0).f4))).setCell ⟨gb276, 5, none⟩ (.slice A275_5 ((rd_T32 l2 a0_0).f5).length c275_5)).setCell ⟨gb276, 6, none⟩ (.slice A275_6 ((rd_T32 l2 a0_0).f6).length c275_6)).setCell ⟨gb276, 7, none⟩ (.slice A275_7 ((rd_T32 l2 a0_0).f7).length c275_7)).setCell ⟨gb276, 8, none⟩ (.int .i64 ((rd_T32 l2 a0_0).f8))).setCell ⟨gb276, 9, none⟩ (.int .i64 ((rd_T32 l2 a0_0).f9))).setCell ⟨gb276, 10, none⟩ (.int .i64 ((rd_T32 l2 a0_0).f10))).heap[gb270]? = some (.cells #[.int .i64 0, .int .i64 0] 45 (0, 0))) := ⟨by (with_reducible repeat (first | refine blk_drewN ?_ _ | refine blk_drew ?_ | refine blk_alloc ?_ _)); refine blk_far ?_ NB270_276.out _; (with_reducible repeat (first | refine blk_drewN ?_ _ | refine blk_drew ?_ | refine blk_alloc ?_ _)); refine blk_far ?_ NB270_276.out _; (with_reducible repeat (first | refine blk_drewN ?_ _ | refine blk_drew ?_ | refine blk_alloc ?_ _)); refine blk_far ?_ NB270_276.out _; (with_reducible repeat (first | refine blk_drewN ?_ _ | refine blk_drew ?_ | refine blk_alloc ?_ _)); refine blk_far ?_ NB270_276.out _; (with_reducible repeat (first | refine blk_drewN ?_ _ | refine blk_drew ?_ | refine blk_alloc ?_ _)); refine blk_far ?_ NB270_276.out _; (with_reducible repeat (first | refine blk_drewN ?_ _ | refine blk_drew ?_ | refine blk_alloc ?_ _)); refine blk_far ?_ NB270_276.out _; (with_reducible repeat (first | refine blk_drewN ?_ _ | refine blk_drew ?_ | refine blk_alloc ?_ _)); refine blk_far ?_ NB270_276.out _; (with_reducible repeat (first | refine blk_drewN ?_ _ | refine blk_drew ?_ | refine blk_alloc ?_ _)); refine blk_far ?_ NB270_276.out _; (with_reducible repeat (first | refine blk_drewN ?_ _ | refine blk_drew ?_ | refine blk_alloc ?_ _)); refine blk_far ?_ NB270_276.out _; (with_reducible repeat (first | refine blk_drewN ?_ _ | refine blk_drew ?_ | refine blk_alloc ?_ _)); refine blk_far ?_ NB270_276.out _; (with_reducible repeat (first | refine blk_drewN ?_ _ | refine blk_drew ?_ | refine blk_alloc ?_ _)); refine blk_far ?_ NB270_276.out _; (with_reducible repeat (first | refine blk_drewN ?_ _ | refine blk_drew ?_ | refine blk_alloc ?_ _)); exact BK270.out⟩
               have n2_ : Aside0 ((((((((((((w29.setCell ⟨gb276, 0, none⟩ (.string ((rd_T32 l2 a0_0).f0))).setCell ⟨gb276, 1, none⟩ (.bool ((rd_T32 l2 a0_0).f1))).setCell ⟨gb276, 2, none⟩ (.int .i64 ((rd_T32 l2 a0_0).f2))).setCell ⟨gb276, 3, none⟩ (.int .u64 ((rd_T32 l2 a0_0).f3))).setCell ⟨gb276, 4, none⟩ (.int .i64 ((rd_T32 l2 a0_0).f4))).setCell ⟨gb276, 5, none⟩ (.slice A275_5 ((rd_T32 l2 a0_0).f5).length c275_5)).setCell ⟨gb276, 6, none⟩ (.slice A275_6 ((rd_T32 l2 a0_0).f6).length c275_6)).setCell ⟨gb276, 7, none⟩ (.slice A275_7 ((rd_T32 l2 a0_0).f7).length c275_7)).setCell ⟨gb276, 8, none⟩ (.int .i64 ((rd_T32 l2 a0_0).f8))).setCell ⟨gb276, 9, none⟩ (.int .i64 ((rd_T32 l2 a0_0).f9))).setCell ⟨gb276, 10, none⟩ (.int .i64 ((rd_T32 l2 a0_0).f10))).heap[gb274]? = some (.cells #[.int .i64 t272, .int .i64 t273] 45 (0, 0))) := ⟨by (with_reducible repeat (first | refine blk_drewN ?_ _ | refine blk_drew ?_ | refine blk_alloc ?_ _)); refine blk_far ?_ NB274_276.out _; (with_reducible repeat (first | refine blk_drewN ?_ _ | refine blk_drew ?_ | refine blk_alloc ?_ _)); refine blk_far ?_ NB274_276.out _; (with_reducible repeat (first | refine blk_drewN ?_ _ | refine blk_drew ?_ | refine blk_alloc ?_ _)); refine blk_far ?_ NB274_276.out _; (with_reducible repeat (first | refine blk_drewN ?_ _ | refine blk_drew ?_ | refine blk_alloc ?_ _)); refine blk_far ?_ NB274_276.out _; (with_reducible repeat (first | refine blk_drewN ?_ _ | refine blk_drew ?_ | refine blk_alloc ?_ _)); refine blk_far ?_ NB274_276.out _; (with_reducible repeat (first | refine blk_drewN ?_ _ | refine blk_drew ?_ | refine blk_alloc ?_ _)); refine blk_far ?_ NB274_276.out _; (with_reducible repeat (first | refine blk_drewN ?_ _ | refine blk_drew ?_ | refine blk_alloc ?_ _)); refine blk_far ?_ NB274_276.out _; (with_reducible repeat (first | refine blk_drewN ?_ _ | refine blk_drew ?_ | refine blk_alloc ?_ _)); refine blk_far ?_ NB274_276.out _; (with_reducible repeat (first | refine blk_drewN ?_ _ | refine blk_drew ?_ | refine blk_alloc ?_ _)); refine blk_far ?_ NB274_276.out _; (with_reducible repeat (first | refine blk_drewN ?_ _ | refine blk_drew ?_ | refine blk_alloc ?_ _)); refine blk_far ?_ NB274_276.out _; (with_reducible repeat (first | refine blk_drewN ?_ _ | refine blk_drew ?_ | refine blk_alloc ?_ _)); refine blk_far ?_ NB274_276.out _; (with_reducible repeat (first | refine blk_drewN ?_ _ | refine blk_drew ?_ | refine blk_alloc ?_ _)); exact BK274.out⟩
               have n3_ : Aside0 ((((((((((((w29.setCell ⟨gb276, 0, none⟩ (.string ((rd_T32 l2 a0_0).f0))).setCell ⟨gb276, 1, none⟩ (.bool ((rd_T32 l2 a0_0).f1))).setCell ⟨gb276, 2, none⟩ (.int .i64 ((rd_T32 l2 a0_0).f2))).setCell ⟨gb276, 3, none⟩ (.int .u64 ((rd_T32 l2 a0_0).f3))).setCell ⟨gb276, 4, none⟩ (.int .i64 ((rd_T32 l2 a0_0).f4))).setCell ⟨gb276, 5, none⟩ (.slice A275_5 ((rd_T32 l2 a0_0).f5).length c275_5)).setCell ⟨gb276, 6, none⟩ (.slice A275_6 ((rd_T32 l2 a0_0).f6).length c275_6)).setCell ⟨gb276, 7, none⟩ (.slice A275_7 ((rd_T32 l2 a0_0).f7).length c275_7)).setCell ⟨gb276, 8, none⟩ (.int .i64 ((rd_T32 l2 a0_0).f8))).setCell ⟨gb276, 9, none⟩ (.int .i64 ((rd_T32 l2 a0_0).f9))).setCell ⟨gb276, 10, none⟩ (.int .i64 ((rd_T32 l2 a0_0).f10))).heap[gb276]? = some (.cells #[.string ((rd_T32 l2 a0_0).f0), .bool ((rd_T32 l2 a0_0).f1), .int .i64 ((rd_T32 l2 a0_0).f2), .int .u64 ((rd_T32 l2 a0_0).f3), .int .i64 ((rd_T32 l2 a0_0).f4), .slice A275_5 ((rd_T32 l2 a0_0).f5).length c275_5, .slice A275_6 ((rd_T32 l2 a0_0).f6).length c275_6, .slice A275_7 ((rd_T32 l2 a0_0).f7).length c275_7, .int .i64 ((rd_T32 l2 a0_0).f8), .int .i64 ((rd_T32 l2 a0_0).f9), .int .i64 ((rd_T32 l2 a0_0).f10)] 32 (0, 0))) := ⟨by (with_reducible repeat (first | refine blk_drewN ?_ _ | refine blk_drew ?_ | refine blk_alloc ?_ _)); refine blk_put (cs := #[.string ((rd_T32 l2 a0_0).f0), .bool ((rd_T32 l2 a0_0).f1), .int .i64 ((rd_T32 l2 a0_0).f2), .int .u64 ((rd_T32 l2 a0_0).f3), .int .i64 ((rd_T32 l2 a0_0).f4), .slice A275_5 ((rd_T32 l2 a0_0).f5).length c275_5, .slice A275_6 ((rd_T32 l2 a0_0).f6).length c275_6, .slice A275_7 ((rd_T32 l2 a0_0).f7).length c275_7, .int .i64 ((rd_T32 l2 a0_0).f8), .int .i64 ((rd_T32 l2 a0_0).f9), .int .i64 0]) ?_ 10 _ rfl; (with_reducible repeat (first | refine blk_drewN ?_ _ | refine blk_drew ?_ | refine blk_alloc ?_ _)); refine blk_put (cs := #[.string ((rd_T32 l2 a0_0).f0), .bool ((rd_T32 l2 a0_0).f1), .int .i64 ((rd_T32 l2 a0_0).f2), .int .u64 ((rd_T32 l2 a0_0).f3), .int .i64 ((rd_T32 l2 a0_0).f4), .slice A275_5 ((rd_T32 l2 a0_0).f5).length c275_5, .slice A275_6 ((rd_T32 l2 a0_0).f6).length c275_6, .slice A275_7 ((rd_T32 l2 a0_0).f7).length c275_7, .int .i64 ((rd_T32 l2 a0_0).f8), .int .i64 0, .int .i64 0]) ?_ 9 _ rfl; (with_reducible repeat (first | refine blk_drewN ?_ _ | refine blk_drew ?_ | refine blk_alloc ?_ _)); refine blk_put (cs := #[.string ((rd_T32 l2 a0_0).f0), .bool ((rd_T32 l2 a0_0).f1), .int .i64 ((rd_T32 l2 a0_0).f2), .int .u64 ((rd_T32 l2 a0_0).f3), .int .i64 ((rd_T32 l2 a0_0).f4), .slice A275_5 ((rd_T32 l2 a0_0).f5).length c275_5, .slice A275_6 ((rd_T32 l2 a0_0).f6).length c275_6, .slice A275_7 ((rd_T32 l2 a0_0).f7).length c275_7, .int .i64 0, .int .i64 0, .int .i64 0]) ?_ 8 _ rfl; (with_reducible repeat (first | refine blk_drewN ?_ _ | refine blk_drew ?_ | refine blk_alloc ?_ _)); refine blk_put (cs := #[.string ((rd_T32 l2 a0_0).f0), .bool ((rd_T32 l2 a0_0).f1), .int .i64 ((rd_T32 l2 a0_0).f2), .int .u64 ((rd_T32 l2 a0_0).f3), .int .i64 ((rd_T32 l2 a0_0).f4), .slice A275_5 ((rd_T32 l2 a0_0).f5).length c275_5, .slice A275_6 ((rd_T32 l2 a0_0).f6).length c275_6, .slice none 0 0, .int .i64 0, .int .i64 0, .int .i64 0]) ?_ 7 _ rfl; (with_reducible repeat (first | refine blk_drewN ?_ _ | refine blk_drew ?_ | refine blk_alloc ?_ _)); refine blk_put (cs := #[.string ((rd_T32 l2 a0_0).f0), .bool ((rd_T32 l2 a0_0).f1), .int .i64 ((rd_T32 l2 a0_0).f2), .int .u64 ((rd_T32 l2 a0_0).f3), .int .i64 ((rd_T32 l2 a0_0).f4), .slice A275_5 ((rd_T32 l2 a0_0).f5).length c275_5, .slice none 0 0, .slice none 0 0, .int .i64 0, .int .i64 0, .int .i64 0]) ?_ 6 _ rfl; (with_reducible repeat (first | refine blk_drewN ?_ _ | refine blk_drew ?_ | refine blk_alloc ?_ _)); refine blk_put (cs := #[.string ((rd_T32 l2 a0_0).f0), .bool ((rd_T32 l2 a0_0).f1), .int .i64 ((rd_T32 l2 a0_0).f2), .int .u64 ((rd_T32 l2 a0_0).f3), .int .i64 ((rd_T32 l2 a0_0).f4), .slice none 0 0, .slice none 0 0, .slice none 0 0, .int .i64 0, .int .i64 0, .int .i64 0]) ?_ 5 _ rfl; (with_reducible repeat (first | refine blk_drewN ?_ _ | refine blk_drew ?_ | refine blk_alloc ?_ _)); refine blk_put (cs := #[.string ((rd_T32 l2 a0_0).f0), .bool ((rd_T32 l2 a0_0).f1), .int .i64 ((rd_T32 l2 a0_0).f2), .int .u64 ((rd_T32 l2 a0_0).f3), .int .i64 0, .slice none 0 0, .slice none 0 0, .slice none 0 0, .int .i64 0, .int .i64 0, .int .i64 0]) ?_ 4 _ rfl; (with_reducible repeat (first | refine blk_drewN ?_ _ | refine blk_drew ?_ | refine blk_alloc ?_ _)); refine blk_put (cs := #[.string ((rd_T32 l2 a0_0).f0), .bool ((rd_T32 l2 a0_0).f1), .int .i64 ((rd_T32 l2 a0_0).f2), .int .u64 0, .int .i64 0, .slice none 0 0, .slice none 0 0, .slice none 0 0, .int .i64 0, .int .i64 0, .int .i64 0]) ?_ 3 _ rfl; (with_reducible repeat (first | refine blk_drewN ?_ _ | refine blk_drew ?_ | refine blk_alloc ?_ _)); refine blk_put (cs := #[.string ((rd_T32 l2 a0_0).f0), .bool ((rd_T32 l2 a0_0).f1), .int .i64 0, .int .u64 0, .int .i64 0, .slice none 0 0, .slice none 0 0, .slice none 0 0, .int .i64 0, .int .i64 0, .int .i64 0]) ?_ 2 _ rfl; (with_reducible repeat (first | refine blk_drewN ?_ _ | refine blk_drew ?_ | refine blk_alloc ?_ _)); refine blk_put (cs := #[.string ((rd_T32 l2 a0_0).f0), .bool false, .int .i64 0, .int .u64 0, .int .i64 0, .slice none 0 0, .slice none 0 0, .slice none 0 0, .int .i64 0, .int .i64 0, .int .i64 0]) ?_ 1 _ rfl; (with_reducible repeat (first | refine blk_drewN ?_ _ | refine blk_drew ?_ | refine blk_alloc ?_ _)); refine blk_put (cs := #[.string (⟨#[]⟩ : ByteArray), .bool false, .int .i64 0, .int .u64 0, .int .i64 0, .slice none 0 0, .slice none 0 0, .slice none 0 0, .int .i64 0, .int .i64 0, .int .i64 0]) ?_ 0 _ rfl; (with_reducible repeat (first | refine blk_drewN ?_ _ | refine blk_drew ?_ | refine blk_alloc ?_ _)); exact BK276.out⟩
               have n4_ : Aside0 (Below w.heap.size w (((((((((((w29.setCell ⟨gb276, 0, none⟩ (.string ((rd_T32 l2 a0_0).f0))).setCell ⟨gb276, 1, none⟩ (.bool ((rd_T32 l2 a0_0).f1))).setCell ⟨gb276, 2, none⟩ (.int .i64 ((rd_T32 l2 a0_0).f2))).setCell ⟨gb276, 3, none⟩ (.int .u64 ((rd_T32 l2 a0_0).f3))).setCell ⟨gb276, 4, none⟩ (.int .i64 ((rd_T32 l2 a0_0).f4))).setCell ⟨gb276, 5, none⟩ (.slice A275_5 ((rd_T32 l2 a0_0).f5).length c275_5)).setCell ⟨gb276, 6, none⟩ (.slice A275_6 ((rd_T32 l2 a0_0).f6).length c275_6)).setCell ⟨gb276, 7, none⟩ (.slice A275_7 ((rd_T32 l2 a0_0).f7).length c275_7)).setCell ⟨gb276, 8, none⟩ (.int .i64 ((rd_T32 l2 a0_0).f8))).setCell ⟨gb276, 9, none⟩ (.int .i64 ((rd_T32 l2 a0_0).f9))).setCell ⟨gb276, 10, none⟩ (.int .i64 ((rd_T32 l2 a0_0).f10)))) := ⟨by repeat (first | (with_reducible first | exact HB.out | apply below_alloc | apply pw_below_drewN | apply below_drew1 | refine below_set ?_ GE269.out | refine below_set ?_ GE270.out | refine below_set ?_ GE274.out | refine below_set ?_ GE276.out) | exact HB.out)⟩
               (try clear BK269)
               (try clear BK270)
               (try clear BK274)
               (try clear BK276)
               (try clear HB)
               generalize (((((((((((w29.setCell ⟨gb276, 0, none⟩ (.string ((rd_T32 l2 a0_0).f0))).setCell ⟨gb276, 1, none⟩ (.bool ((rd_T32 l2 a0_0).f1))).setCell ⟨gb276, 2, none⟩ (.int .i64 ((rd_T32 l2 a0_0).f2))).setCell ⟨gb276, 3, none⟩ (.int .u64 ((rd_T32 l2 a0_0).f3))).setCell ⟨gb276, 4, none⟩ (.int .i64 ((rd_T32 l2 a0_0).f4))).setCell ⟨gb276, 5, none⟩ (.slice A275_5 ((rd_T32 l2 a0_0).f5).length c275_5)).setCell ⟨gb276, 6, none⟩ (.slice A275_6 ((rd_T32 l2 a0_0).f6).length c275_6)).setCell ⟨gb276, 7, none⟩ (.slice A275_7 ((rd_T32 l2 a0_0).f7).length c275_7)).setCell ⟨gb276, 8, none⟩ (.int .i64 ((rd_T32 l2 a0_0).f8))).setCell ⟨gb276, 9, none⟩ (.int .i64 ((rd_T32 l2 a0_0).f9))).setCell ⟨gb276, 10, none⟩ (.int .i64 ((rd_T32 l2 a0_0).f10))) = w34 at n0_ n1_ n2_ n3_ n4_ ⊢
               have BK269 := n0_
               have BK270 := n1_
               have BK274 := n2_
               have BK276 := n3_
               have HB := n4_
               clear n0_ n1_ n2_ n3_ n4_
               have n0_ := Aside0.mk (blk_drew BK269.out)
               have n1_ := Aside0.mk (blk_drew BK270.out)
               have n2_ := Aside0.mk (blk_drew BK274.out)
               have n3_ := Aside0.mk (blk_drew BK276.out)
               have n4_ := Aside0.mk (below_drew1 HB.out)
               clear BK269
               clear BK270
               clear BK274
               clear BK276
               clear HB
               have BK269 := n0_
               have BK270 := n1_
               have BK274 := n2_
               have BK276 := n3_
               have HB := n4_
               clear n0_ n1_ n2_ n3_ n4_
               refine start_ (n := 9) (S := fun w' => w'.cell? ⟨gb276, 0, none⟩ = some (.string ((rd_T32 l2 a0_0).f0)) ∧ w'.cell? ⟨gb276, 1, none⟩ = some (.bool ((rd_T32 l2 a0_0).f1)) ∧ w'.cell? ⟨gb276, 2, none⟩ = some (.int .i64 ((rd_T32 l2 a0_0).f2)) ∧ w'.cell? ⟨gb276, 3, none⟩ = some (.int .u64 ((rd_T32 l2 a0_0).f3)) ∧ w'.cell? ⟨gb276, 4, none⟩ = some (.int .i64 ((rd_T32 l2 a0_0).f4)) ∧ w'.cell? ⟨gb276, 5, none⟩ = some (.slice A275_5 ((rd_T32 l2 a0_0).f5).length c275_5) ∧ w'.cell? ⟨gb276, 6, none⟩ = some (.slice A275_6 ((rd_T32 l2 a0_0).f6).length c275_6) ∧ w'.cell? ⟨gb276, 7, none⟩ = some (.slice A275_7 ((rd_T32 l2 a0_0).f7).length c275_7) ∧ w'.cell? ⟨gb276, 8, none⟩ = some (.int .i64 ((rd_T32 l2 a0_0).f8)) ∧ w'.cell? ⟨gb276, 9, none⟩ = some (.int .i64 ((rd_T32 l2 a0_0).f9)) ∧ w'.cell? ⟨gb276, 10, none⟩ = some (.int .i64 ((rd_T32 l2 a0_0).f10)) ∧ w'.cell? ⟨gb269, 0, none⟩ = some (.int .i64 a0_0) ∧ w'.cell? ⟨gb269, 1, none⟩ = some (.slice (some ad271) l0_1.length c0_1) ∧ w'.cell? ⟨gb269, 2, none⟩ = some (.slice A0_2 l0_2.length c0_2)) (ds := []) (zb 0 9) (by kernel_rfl) rfl rfl ⟨(blk_cell BK276.out 0).trans rfl, (blk_cell BK276.out 1).trans rfl, (blk_cell BK276.out 2).trans rfl, (blk_cell BK276.out 3).trans rfl, (blk_cell BK276.out 4).trans rfl, (blk_cell BK276.out 5).trans rfl, (blk_cell BK276.out 6).trans rfl, (blk_cell BK276.out 7).trans rfl, (blk_cell BK276.out 8).trans rfl, (blk_cell BK276.out 9).trans rfl, (blk_cell BK276.out 10).trans rfl, (blk_cell BK269.out 0).trans rfl, (blk_cell BK269.out 1).trans rfl, (blk_cell BK269.out 2).trans rfl⟩ (fun hHeld => ?_); refine with_tabW maskref4_Reaches.tab5 maskref4_Reaches.bits5 (fun HT_ HW_ => ?_)
               generalize w34.drew = w35 at BK269 BK270 BK274 BK276 HB hHeld ⊢
               refine pure_ (i := 0) (N := some 29) (v := ?_) (a' := ?_) (zb 1 8) rfl rfl (any_of HT_.out (by kernel_rfl)) (fun _ _ _ h => h) (Or.inl ⟨by rfl, ?_⟩) ?_ ?_
               rotate_left; focus (intro w'; go_simp; with_reducible rfl)
               rotate_left; focus (simp only [Act.put, z1, z2, z3, i64_w, i32_w]; rfl)
               refine pure_ (i := 3) (N := some 32) (v := ?_) (a' := ?_) #[true,false,false,true,false,false,false,false,false] rfl rfl (any_of HT_.out (by kernel_rfl)) (fun _ _ _ h => h) (Or.inl ⟨by rfl, ?_⟩) ?_ ?_
               rotate_left; focus (intro w'; go_simp; with_reducible rfl)
               rotate_left; focus (simp only [Act.put, z1, z2, z3, i64_w, i32_w]; rfl)
               refine pure_ (i := 4) (N := some 33) (v := ?_) (a' := ?_) #[true,false,false,true,true,false,false,false,false] rfl rfl (any_of HT_.out (by kernel_rfl)) (fun _ _ _ h => h) (Or.inl ⟨by rfl, ?_⟩) ?_ ?_
               rotate_left; focus (intro w'; go_simp; with_reducible rfl)
               rotate_left; focus (simp only [Act.put, z1, z2, z3, i64_w, i32_w]; rfl)
               refine pure_ (i := 5) (N := some 34) (v := ?_) (a' := ?_) #[true,false,false,true,true,true,false,false,false] rfl rfl (any_of HT_.out (by kernel_rfl)) (fun _ _ _ h => h) (Or.inl ⟨by rfl, ?_⟩) ?_ ?_
               rotate_left; focus (intro w'; go_simp; with_reducible rfl)
               rotate_left; focus (simp only [Act.put, z1, z2, z3, i64_w, i32_w]; rfl)
               refine take_ (i := 1) (N := some 30) (v := ?_) (a' := ?_) #[true,true,false,true,true,true,false,false,false] rfl rfl (take_ofW HT_.out HW_.out (by kernel_rfl)) (fun _ _ _ h => h) (Or.inl ⟨by rfl, ?_⟩) hHeld ?_ ?_
               rotate_left
               · rintro w' ⟨s0, s1, s2, s3, s4, s5, s6, s7, s8, s9, s10, s11, s12, s13⟩
                 go_simp
                 with_reducible rfl
               rotate_left; focus (simp only [Act.put, z1, z2, z3, i64_w, i32_w]; rfl)
               refine take_ (i := 2) (N := some 31) (v := ?_) (a' := ?_) (zb 6 3) rfl rfl (take_ofW HT_.out HW_.out (by kernel_rfl)) (fun _ _ _ h => h) (Or.inl ⟨by rfl, ?_⟩) hHeld ?_ ?_
               rotate_left
               · rintro w' ⟨s0, s1, s2, s3, s4, s5, s6, s7, s8, s9, s10, s11, s12, s13⟩
                 go_simp
                 with_reducible rfl
               rotate_left; focus (simp only [Act.put, z1, z2, z3, i64_w, i32_w]; rfl)
               refine one_ (i := 6) (N := some 35) (zb 7 2) rfl rfl (one_of HT_.out (by kernel_rfl)) (by decide) (fun K hK => ?_)
               refine goes_ Try.func22 (by kernel_rfl) rfl #[.agg #[.int .i64 a0_0, .slice (some ad271) l0_1.length c0_1, .slice A0_2 l0_2.length c0_2], .int .i64 a1, .slice (some ad275) l2.length c2, .slice A3 l3.length c3] (by rfl) rfl rfl (by (try simp only [List.map_toArray, List.map_cons, List.map_nil]); first | done | rfl | (simp only [List.length_drop, List.length_take]; rfl)) ?_
               with_reducible refine (maskref4_LoadOf.calls k a0_0 _ _ l0_1 _ _ l0_2 a1 _ _ l2 _ _ l3 t277 _ ?side1 ?side2 ?side3 ?side4 ?side5 ?side6 ?side7 ?side8 A15.out).mono ?_
               (case side1 => repeat (first | exact (Kd.C_below HR0_1.out HB.out) | (with_reducible refine Kd.C_alloc ?_ _) | (with_reducible refine Kd.C_drewN ?_ _) | (with_reducible refine Kd.C_drew ?_)))
               (case side2 => exact HC0_1.out)
               (case side3 => repeat (first | exact (Kd.C_below HR0_2.out HB.out) | (with_reducible refine Kd.C_alloc ?_ _) | (with_reducible refine Kd.C_drewN ?_ _) | (with_reducible refine Kd.C_drew ?_)))
               (case side4 => exact HC0_2.out)
               (case side5 => repeat (first | exact (Kd.C_below HR2.out HB.out) | (with_reducible refine Kd.C_alloc ?_ _) | (with_reducible refine Kd.C_drewN ?_ _) | (with_reducible refine Kd.C_drew ?_)))
               (case side6 => exact HC2.out)
               (case side7 => repeat (first | exact (Kd.C_below HR3.out HB.out) | (with_reducible refine Kd.C_alloc ?_ _) | (with_reducible refine Kd.C_drewN ?_ _) | (with_reducible refine Kd.C_drew ?_)))
               (case side8 => exact HC3.out)
               rintro e w36 ⟨rfl, hb⟩
               refine ⟨_, rfl, ?_⟩
               have n0_ := Aside0.mk (blk_below (g := gb269) (o := .cells #[.int .i64 a0_0, .slice (some ad271) l0_1.length c0_1, .slice A0_2 l0_2.length c0_2] 24 (0, 0)) (by (with_reducible repeat (first | refine blk_drewN ?_ _ | refine blk_drew ?_ | refine blk_alloc ?_ _)); exact BK269.out) hb)
               have n1_ := Aside0.mk (blk_below (g := gb270) (o := .cells #[.int .i64 0, .int .i64 0] 45 (0, 0)) (by (with_reducible repeat (first | refine blk_drewN ?_ _ | refine blk_drew ?_ | refine blk_alloc ?_ _)); exact BK270.out) hb)
               have n2_ := Aside0.mk (blk_below (g := gb274) (o := .cells #[.int .i64 t272, .int .i64 t273] 45 (0, 0)) (by (with_reducible repeat (first | refine blk_drewN ?_ _ | refine blk_drew ?_ | refine blk_alloc ?_ _)); exact BK274.out) hb)
               have n3_ := Aside0.mk (blk_below (g := gb276) (o := .cells #[.string ((rd_T32 l2 a0_0).f0), .bool ((rd_T32 l2 a0_0).f1), .int .i64 ((rd_T32 l2 a0_0).f2), .int .u64 ((rd_T32 l2 a0_0).f3), .int .i64 ((rd_T32 l2 a0_0).f4), .slice A275_5 ((rd_T32 l2 a0_0).f5).length c275_5, .slice A275_6 ((rd_T32 l2 a0_0).f6).length c275_6, .slice A275_7 ((rd_T32 l2 a0_0).f7).length c275_7, .int .i64 ((rd_T32 l2 a0_0).f8), .int .i64 ((rd_T32 l2 a0_0).f9), .int .i64 ((rd_T32 l2 a0_0).f10)] 32 (0, 0)) (by (with_reducible repeat (first | refine blk_drewN ?_ _ | refine blk_drew ?_ | refine blk_alloc ?_ _)); exact BK276.out) hb)
               have n4_ := Aside0.mk (below_step (by repeat (first | (with_reducible first | exact HB.out | apply below_alloc | apply pw_below_drewN | apply below_drew1 | refine below_set ?_ GE269.out | refine below_set ?_ GE270.out | refine below_set ?_ GE274.out | refine below_set ?_ GE276.out) | exact HB.out)) hb)
               clear BK269
               clear BK270
               clear BK274
               clear BK276
               clear HB
               have BK269 := n0_
               have BK270 := n1_
               have BK274 := n2_
               have BK276 := n3_
               have HB := n4_
               clear n0_ n1_ n2_ n3_ n4_
               (try clear hb)
               (try clear hb2)
               (try clear hk)
               (try clear hi)
               refine hK.out _ _ ⟨(blk_cell BK276.out 0).trans rfl, (blk_cell BK276.out 1).trans rfl, (blk_cell BK276.out 2).trans rfl, (blk_cell BK276.out 3).trans rfl, (blk_cell BK276.out 4).trans rfl, (blk_cell BK276.out 5).trans rfl, (blk_cell BK276.out 6).trans rfl, (blk_cell BK276.out 7).trans rfl, (blk_cell BK276.out 8).trans rfl, (blk_cell BK276.out 9).trans rfl, (blk_cell BK276.out 10).trans rfl, (blk_cell BK269.out 0).trans rfl, (blk_cell BK269.out 1).trans rfl, (blk_cell BK269.out 2).trans rfl⟩ (fun hHeld => ?_)
               clear hK K
               refine norm_ (a' := ?_) ?_ ?_
               rotate_left; focus (show Act.put _ (some 35) _ = _; simp only [Act.put, z1, z2, z3, i64_w, i32_w]; rfl)
               refine pure_ (i := 7) (N := some 36) (v := ?_) (a' := ?_) (zb 8 1) rfl rfl (any_of HT_.out (by kernel_rfl)) (fun _ _ _ h => h) (Or.inl ⟨by rfl, ?_⟩) ?_ ?_
               rotate_left; focus (intro w'; go_simp; with_reducible rfl)
               rotate_left; focus (simp only [Act.put, z1, z2, z3, i64_w, i32_w]; rfl)
               refine pure_ (i := 8) (N := some 11) (v := ?_) (a' := ?_) (zb 9 0) rfl rfl (any_of HT_.out (by kernel_rfl)) (fun _ _ _ h => h) (Or.inl ⟨by rfl, ?_⟩) ?_ ?_
               rotate_left; focus (intro w'; go_simp; with_reducible rfl)
               rotate_left; focus (simp only [Act.put, z1, z2, z3, i64_w, i32_w]; rfl)
               refine done_ (done_of HT_.out (by kernel_rfl)) ?_
               try go_wp2
               have n0_ := Aside0.mk (blk_drew BK269.out)
               have n1_ := Aside0.mk (blk_drew BK270.out)
               have n2_ := Aside0.mk (blk_drew BK274.out)
               have n3_ := Aside0.mk (blk_drew BK276.out)
               have n4_ := Aside0.mk (below_drew1 HB.out)
               clear BK269
               clear BK270
               clear BK274
               clear BK276
               clear HB
               have BK269 := n0_
               have BK270 := n1_
               have BK274 := n2_
               have BK276 := n3_
               have HB := n4_
               clear n0_ n1_ n2_ n3_ n4_
               have p278 : 0 ≤ (0 : Int) := (by omega)
               have q278 : 0 < (((rd_T32 l2 a0_0).f6).length : Int) := of_decide_eq_true (by first | (with_reducible assumption) | assumption)
               obtain ⟨ad278, e278, hx278_0⟩ := Kd.at_int HR275_6.out 0 p278 q278
               have hw278_0 := hx278_0
               (try rw [show ((0 : Int)).toNat = 0 from rfl] at hw278_0)
               (try rw [show 0 * 1 = 0 from rfl] at hw278_0)
               (try rw [Addr.add_zero'] at hw278_0)
               cases e278
               have qi278 : (0 < ((rd_T32 l2 a0_0).f6).length) = True := eq_true (by omega)
               (try rw [show ((0 : Int)).toNat = 0 from rfl] at hx278_0)
               (try rw [Addr.add_zero'] at hx278_0)
               replace hx278_0 := (HB.out.cell (World.block_lt_of_cell? w _ hx278_0)).trans hx278_0
               replace p278 := eq_true p278
               replace q278 := eq_true q278
               have p279 : 0 ≤ (0 : Int) := (by omega)
               have q279 : 0 < (((rd_T32 l2 a0_0).f7).length : Int) := of_decide_eq_true (by first | (with_reducible assumption) | assumption)
               obtain ⟨ad279, e279, hx279_0⟩ := Kd.at_int HR275_7.out 0 p279 q279
               have hw279_0 := hx279_0
               (try rw [show ((0 : Int)).toNat = 0 from rfl] at hw279_0)
               (try rw [show 0 * 1 = 0 from rfl] at hw279_0)
               (try rw [Addr.add_zero'] at hw279_0)
               cases e279
               have qi279 : (0 < ((rd_T32 l2 a0_0).f7).length) = True := eq_true (by omega)
               (try rw [show ((0 : Int)).toNat = 0 from rfl] at hx279_0)
               (try rw [Addr.add_zero'] at hx279_0)
               replace hx279_0 := (HB.out.cell (World.block_lt_of_cell? w _ hx279_0)).trans hx279_0
               replace p279 := eq_true p279
               replace q279 := eq_true q279
               refine start_ (n := 20) (S := fun w' => w'.cell? ⟨gb274, 0, none⟩ = some (.int .i64 t272) ∧ w'.cell? ⟨gb274, 1, none⟩ = some (.int .i64 t273) ∧ w'.cell? ⟨gb276, 0, none⟩ = some (.string ((rd_T32 l2 a0_0).f0)) ∧ w'.cell? ⟨gb276, 1, none⟩ = some (.bool ((rd_T32 l2 a0_0).f1)) ∧ w'.cell? ⟨gb276, 2, none⟩ = some (.int .i64 ((rd_T32 l2 a0_0).f2)) ∧ w'.cell? ⟨gb276, 3, none⟩ = some (.int .u64 ((rd_T32 l2 a0_0).f3)) ∧ w'.cell? ⟨gb276, 4, none⟩ = some (.int .i64 ((rd_T32 l2 a0_0).f4)) ∧ w'.cell? ⟨gb276, 5, none⟩ = some (.slice A275_5 ((rd_T32 l2 a0_0).f5).length c275_5) ∧ w'.cell? ⟨gb276, 6, none⟩ = some (.slice (some ad278) ((rd_T32 l2 a0_0).f6).length c275_6) ∧ w'.cell? ⟨gb276, 7, none⟩ = some (.slice (some ad279) ((rd_T32 l2 a0_0).f7).length c275_7) ∧ w'.cell? ⟨gb276, 8, none⟩ = some (.int .i64 ((rd_T32 l2 a0_0).f8)) ∧ w'.cell? ⟨gb276, 9, none⟩ = some (.int .i64 ((rd_T32 l2 a0_0).f9)) ∧ w'.cell? ⟨gb276, 10, none⟩ = some (.int .i64 ((rd_T32 l2 a0_0).f10)) ∧ w'.cell? ad278 = some (.int .i64 (rd ((rd_T32 l2 a0_0).f6) 0)) ∧ w'.cell? ad279 = some (.int .i64 (rd ((rd_T32 l2 a0_0).f7) 0))) (ds := []) (zb 0 20) (by kernel_rfl) rfl rfl ⟨(blk_cell BK274.out 0).trans rfl, (blk_cell BK274.out 1).trans rfl, (blk_cell BK276.out 0).trans rfl, (blk_cell BK276.out 1).trans rfl, (blk_cell BK276.out 2).trans rfl, (blk_cell BK276.out 3).trans rfl, (blk_cell BK276.out 4).trans rfl, (blk_cell BK276.out 5).trans rfl, (blk_cell BK276.out 6).trans rfl, (blk_cell BK276.out 7).trans rfl, (blk_cell BK276.out 8).trans rfl, (blk_cell BK276.out 9).trans rfl, (blk_cell BK276.out 10).trans rfl, ((HB.out.cell (World.block_lt_of_cell? w _ hw278_0)).trans hw278_0), ((HB.out.cell (World.block_lt_of_cell? w _ hw279_0)).trans hw279_0)⟩ (fun hHeld => ?_); refine with_tabW maskref4_Reaches.tab6 maskref4_Reaches.bits6 (fun HT_ HW_ => ?_)
               generalize w36.drew = w37 at BK269 BK270 BK274 BK276 HB hx278_0 hx279_0 hHeld ⊢
               refine pure_ (i := 0) (N := some 37) (v := ?_) (a' := ?_) (zb 1 19) rfl rfl (any_of HT_.out (by kernel_rfl)) (fun _ _ _ h => h) (Or.inl ⟨by rfl, ?_⟩) ?_ ?_
               rotate_left; focus (intro w'; go_simp; with_reducible rfl)
               rotate_left; focus (simp only [Act.put, z1, z2, z3, i64_w, i32_w]; rfl)
               refine pure_ (i := 2) (N := some 39) (v := ?_) (a' := ?_) #[true,false,true,false,false,false,false,false,false,false,false,false,false,false,false,false,false,false,false,false] rfl rfl (any_of HT_.out (by kernel_rfl)) (fun _ _ _ h => h) (Or.inl ⟨by rfl, ?_⟩) ?_ ?_
               rotate_left; focus (intro w'; go_simp; with_reducible rfl)
               rotate_left; focus (simp only [Act.put, z1, z2, z3, i64_w, i32_w]; rfl)
               refine pure_ (i := 7) (N := some 44) (v := ?_) (a' := ?_) #[true,false,true,false,false,false,false,true,false,false,false,false,false,false,false,false,false,false,false,false] rfl rfl (any_of HT_.out (by kernel_rfl)) (fun _ _ _ h => h) (Or.inl ⟨by rfl, ?_⟩) ?_ ?_
               rotate_left; focus (intro w'; go_simp; with_reducible rfl)
               rotate_left; focus (simp only [Act.put, z1, z2, z3, i64_w, i32_w]; rfl)
               refine pure_ (i := 9) (N := some 46) (v := ?_) (a' := ?_) #[true,false,true,false,false,false,false,true,false,true,false,false,false,false,false,false,false,false,false,false] rfl rfl (any_of HT_.out (by kernel_rfl)) (fun _ _ _ h => h) (Or.inl ⟨by rfl, ?_⟩) ?_ ?_
               rotate_left; focus (intro w'; go_simp; with_reducible rfl)
               rotate_left; focus (simp only [Act.put, z1, z2, z3, i64_w, i32_w]; rfl)
               refine pure_ (i := 11) (N := some 48) (v := ?_) (a' := ?_) #[true,false,true,false,false,false,false,true,false,true,false,true,false,false,false,false,false,false,false,false] rfl rfl (any_of HT_.out (by kernel_rfl)) (fun _ _ _ h => h) (Or.inl ⟨by rfl, ?_⟩) ?_ ?_
               rotate_left; focus (intro w'; go_simp; with_reducible rfl)
               rotate_left; focus (simp only [Act.put, z1, z2, z3, i64_w, i32_w]; rfl)
               refine pure_ (i := 16) (N := some 53) (v := ?_) (a' := ?_) #[true,false,true,false,false,false,false,true,false,true,false,true,false,false,false,false,true,false,false,false] rfl rfl (any_of HT_.out (by kernel_rfl)) (fun _ _ _ h => h) (Or.inl ⟨by rfl, ?_⟩) ?_ ?_
               rotate_left; focus (intro w'; go_simp; with_reducible rfl)
               rotate_left; focus (simp only [Act.put, z1, z2, z3, i64_w, i32_w]; rfl)
               refine take_ (i := 1) (N := some 38) (v := ?_) (a' := ?_) #[true,true,true,false,false,false,false,true,false,true,false,true,false,false,false,false,true,false,false,false] rfl rfl (take_ofW HT_.out HW_.out (by kernel_rfl)) (fun _ _ _ h => h) (Or.inl ⟨by rfl, ?_⟩) hHeld ?_ ?_
               rotate_left
               · rintro w' ⟨s0, s1, s2, s3, s4, s5, s6, s7, s8, s9, s10, s11, s12, s13, s14⟩
                 go_simp
                 with_reducible rfl
               rotate_left; focus (simp only [Act.put, z1, z2, z3, i64_w, i32_w]; rfl)
               refine take_ (i := 3) (N := some 40) (v := ?_) (a' := ?_) #[true,true,true,true,false,false,false,true,false,true,false,true,false,false,false,false,true,false,false,false] rfl rfl (take_ofW HT_.out HW_.out (by kernel_rfl)) (fun _ _ _ h => h) (Or.inl ⟨by rfl, ?_⟩) hHeld ?_ ?_
               rotate_left
               · rintro w' ⟨s0, s1, s2, s3, s4, s5, s6, s7, s8, s9, s10, s11, s12, s13, s14⟩
                 go_simp
                 with_reducible rfl
               rotate_left; focus (simp only [Act.put, z1, z2, z3, i64_w, i32_w]; rfl)
               refine pure_ (i := 4) (N := some 41) (v := ?_) (a' := ?_) #[true,true,true,true,true,false,false,true,false,true,false,true,false,false,false,false,true,false,false,false] rfl rfl (any_of HT_.out (by kernel_rfl)) (fun _ _ _ h => h) (Or.inl ⟨by rfl, ?_⟩) ?_ ?_
               rotate_left; focus (intro w'; go_simp; with_reducible rfl)
               rotate_left; focus (simp only [Act.put, z1, z2, z3, i64_w, i32_w]; rfl)
               refine take_ (i := 5) (N := some 42) (v := ?_) (a' := ?_) #[true,true,true,true,true,true,false,true,false,true,false,true,false,false,false,false,true,false,false,false] rfl rfl (take_ofW HT_.out HW_.out (by kernel_rfl)) (fun _ _ _ h => h) (Or.inl ⟨by rfl, ?_⟩) hHeld ?_ ?_
               rotate_left
               · rintro w' ⟨s0, s1, s2, s3, s4, s5, s6, s7, s8, s9, s10, s11, s12, s13, s14⟩
                 go_simp
                 with_reducible rfl
               rotate_left; focus (simp only [Act.put, z1, z2, z3, i64_w, i32_w]; rfl)
               refine pure_ (i := 6) (N := some 43) (v := ?_) (a' := ?_) #[true,true,true,true,true,true,true,true,false,true,false,true,false,false,false,false,true,false,false,false] rfl rfl (any_of HT_.out (by kernel_rfl)) (fun _ _ _ h => h) (Or.inl ⟨by rfl, ?_⟩) ?_ ?_
               rotate_left; focus (intro w'; go_simp; with_reducible rfl)
               rotate_left; focus (simp only [Act.put, z1, z2, z3, i64_w, i32_w]; rfl)
               refine pure_ (i := 8) (N := some 45) (v := ?_) (a' := ?_) #[true,true,true,true,true,true,true,true,true,true,false,true,false,false,false,false,true,false,false,false] rfl rfl (any_of HT_.out (by kernel_rfl)) (fun _ _ _ h => h) (Or.inl ⟨by rfl, ?_⟩) ?_ ?_
               rotate_left; focus (intro w'; go_simp; with_reducible rfl)
               rotate_left; focus (simp only [Act.put, z1, z2, z3, i64_w, i32_w]; rfl)
               refine take_ (i := 10) (N := some 47) (v := ?_) (a' := ?_) #[true,true,true,true,true,true,true,true,true,true,true,true,false,false,false,false,true,false,false,false] rfl rfl (take_ofW HT_.out HW_.out (by kernel_rfl)) (fun _ _ _ h => h) (Or.inl ⟨by rfl, ?_⟩) hHeld ?_ ?_
               rotate_left
               · rintro w' ⟨s0, s1, s2, s3, s4, s5, s6, s7, s8, s9, s10, s11, s12, s13, s14⟩
                 go_simp
                 with_reducible rfl
               rotate_left; focus (simp only [Act.put, z1, z2, z3, i64_w, i32_w]; rfl)
               refine take_ (i := 12) (N := some 49) (v := ?_) (a' := ?_) #[true,true,true,true,true,true,true,true,true,true,true,true,true,false,false,false,true,false,false,false] rfl rfl (take_ofW HT_.out HW_.out (by kernel_rfl)) (fun _ _ _ h => h) (Or.inl ⟨by rfl, ?_⟩) hHeld ?_ ?_
               rotate_left
               · rintro w' ⟨s0, s1, s2, s3, s4, s5, s6, s7, s8, s9, s10, s11, s12, s13, s14⟩
                 go_simp
                 with_reducible rfl
               rotate_left; focus (simp only [Act.put, z1, z2, z3, i64_w, i32_w]; rfl)
               refine pure_ (i := 13) (N := some 50) (v := ?_) (a' := ?_) #[true,true,true,true,true,true,true,true,true,true,true,true,true,true,false,false,true,false,false,false] rfl rfl (any_of HT_.out (by kernel_rfl)) (fun _ _ _ h => h) (Or.inl ⟨by rfl, ?_⟩) ?_ ?_
               rotate_left; focus (intro w'; go_simp; with_reducible rfl)
               rotate_left; focus (simp only [Act.put, z1, z2, z3, i64_w, i32_w]; rfl)
               refine take_ (i := 14) (N := some 51) (v := ?_) (a' := ?_) #[true,true,true,true,true,true,true,true,true,true,true,true,true,true,true,false,true,false,false,false] rfl rfl (take_ofW HT_.out HW_.out (by kernel_rfl)) (fun _ _ _ h => h) (Or.inl ⟨by rfl, ?_⟩) hHeld ?_ ?_
               rotate_left
               · rintro w' ⟨s0, s1, s2, s3, s4, s5, s6, s7, s8, s9, s10, s11, s12, s13, s14⟩
                 go_simp
                 with_reducible rfl
               rotate_left; focus (simp only [Act.put, z1, z2, z3, i64_w, i32_w]; rfl)
               refine pure_ (i := 15) (N := some 52) (v := ?_) (a' := ?_) (zb 17 3) rfl rfl (any_of HT_.out (by kernel_rfl)) (fun _ _ _ h => h) (Or.inl ⟨by rfl, ?_⟩) ?_ ?_
               rotate_left; focus (intro w'; go_simp; with_reducible rfl)
               rotate_left; focus (simp only [Act.put, z1, z2, z3, i64_w, i32_w]; rfl)
               refine pure_ (i := 17) (N := some 54) (v := ?_) (a' := ?_) (zb 18 2) rfl rfl (any_of HT_.out (by kernel_rfl)) (fun _ _ _ h => h) (Or.inl ⟨by rfl, ?_⟩) ?_ ?_
               rotate_left; focus (intro w'; go_simp; with_reducible rfl)
               rotate_left; focus (simp only [Act.put, z1, z2, z3, i64_w, i32_w]; rfl)
               refine pure_ (i := 18) (N := some 55) (v := ?_) (a' := ?_) (zb 19 1) rfl rfl (any_of HT_.out (by kernel_rfl)) (fun _ _ _ h => h) (Or.inl ⟨by rfl, ?_⟩) ?_ ?_
               rotate_left; focus (intro w'; go_simp; with_reducible rfl)
               rotate_left; focus (simp only [Act.put, z1, z2, z3, i64_w, i32_w]; rfl)
               refine one_ (i := 19) (N := none) (zb 20 0) rfl rfl (one_of HT_.out (by kernel_rfl)) (by decide) (fun K hK => ?_)
               have hs38 : w37.cell? ⟨gb270, 0, none⟩ = some (.int .i64 0) := (blk_cell BK270.out 0).trans rfl
               have hfs38 := blk_frozen BK270.out 0
               have hns38_0 := NB269_270.out
               have hns38_2 := NB274_270.out
               have hns38_3 := NB276_270.out
               have hms38_0 := NB270_269.out
               have hms38_2 := NB270_274.out
               have hms38_3 := NB270_276.out
               have hs39 : w37.cell? ⟨gb270, 1, none⟩ = some (.int .i64 0) := (blk_cell BK270.out 1).trans rfl
               have hfs39 := blk_frozen BK270.out 1
               have hns39_0 := NB269_270.out
               have hns39_2 := NB274_270.out
               have hns39_3 := NB276_270.out
               have hms39_0 := NB270_269.out
               have hms39_2 := NB270_274.out
               have hms39_3 := NB270_276.out
               refine skip_ (w1 := ?_) (by rfl) rfl ?_ ?_
               rotate_left; focus (go_simp; rfl)
               refine hK.out _ _ ⟨((cell_far (p := ⟨gb270, _, none⟩) NB274_270.out _).trans (((cell_far (p := ⟨gb270, _, none⟩) NB274_270.out _).trans (hHeld.1)))), ((cell_far (p := ⟨gb270, _, none⟩) NB274_270.out _).trans (((cell_far (p := ⟨gb270, _, none⟩) NB274_270.out _).trans (hHeld.2.1)))), ((cell_far (p := ⟨gb270, _, none⟩) NB276_270.out _).trans (((cell_far (p := ⟨gb270, _, none⟩) NB276_270.out _).trans (hHeld.2.2.1)))), ((cell_far (p := ⟨gb270, _, none⟩) NB276_270.out _).trans (((cell_far (p := ⟨gb270, _, none⟩) NB276_270.out _).trans (hHeld.2.2.2.1)))), ((cell_far (p := ⟨gb270, _, none⟩) NB276_270.out _).trans (((cell_far (p := ⟨gb270, _, none⟩) NB276_270.out _).trans (hHeld.2.2.2.2.1)))), ((cell_far (p := ⟨gb270, _, none⟩) NB276_270.out _).trans (((cell_far (p := ⟨gb270, _, none⟩) NB276_270.out _).trans (hHeld.2.2.2.2.2.1)))), ((cell_far (p := ⟨gb270, _, none⟩) NB276_270.out _).trans (((cell_far (p := ⟨gb270, _, none⟩) NB276_270.out _).trans (hHeld.2.2.2.2.2.2.1)))), ((cell_far (p := ⟨gb270, _, none⟩) NB276_270.out _).trans (((cell_far (p := ⟨gb270, _, none⟩) NB276_270.out _).trans (hHeld.2.2.2.2.2.2.2.1)))), ((cell_far (p := ⟨gb270, _, none⟩) NB276_270.out _).trans (((cell_far (p := ⟨gb270, _, none⟩) NB276_270.out _).trans (hHeld.2.2.2.2.2.2.2.2.1)))), ((cell_far (p := ⟨gb270, _, none⟩) NB276_270.out _).trans (((cell_far (p := ⟨gb270, _, none⟩) NB276_270.out _).trans (hHeld.2.2.2.2.2.2.2.2.2.1)))), ((cell_far (p := ⟨gb270, _, none⟩) NB276_270.out _).trans (((cell_far (p := ⟨gb270, _, none⟩) NB276_270.out _).trans (hHeld.2.2.2.2.2.2.2.2.2.2.1)))), ((cell_far (p := ⟨gb270, _, none⟩) NB276_270.out _).trans (((cell_far (p := ⟨gb270, _, none⟩) NB276_270.out _).trans (hHeld.2.2.2.2.2.2.2.2.2.2.2.1)))), ((cell_far (p := ⟨gb270, _, none⟩) NB276_270.out _).trans (((cell_far (p := ⟨gb270, _, none⟩) NB276_270.out _).trans (hHeld.2.2.2.2.2.2.2.2.2.2.2.2.1)))), ((cell_far (p := ⟨gb270, _, none⟩) (by first | exact Nat.ne_of_lt (Nat.lt_of_lt_of_le (by have := World.block_lt_of_cell? _ _ hw278_0; first | rwa [add_block] at this | exact this) GW270.out) | (rw [add_block]; exact Nat.ne_of_lt (Nat.lt_of_lt_of_le (by have := World.block_lt_of_cell? _ _ hw278_0; first | rwa [add_block] at this | exact this) GW270.out)) | (show (Addr.add _ _).block ≠ _; rw [add_block]; exact Nat.ne_of_lt (Nat.lt_of_lt_of_le (by have := World.block_lt_of_cell? _ _ hw278_0; first | rwa [add_block] at this | exact this) GW270.out)) | (dsimp only; exact Nat.ne_of_lt (Nat.lt_of_lt_of_le (by have := World.block_lt_of_cell? _ _ hw278_0; first | rwa [add_block] at this | exact this) GW270.out))) _).trans (((cell_far (p := ⟨gb270, _, none⟩) (by first | exact Nat.ne_of_lt (Nat.lt_of_lt_of_le (by have := World.block_lt_of_cell? _ _ hw278_0; first | rwa [add_block] at this | exact this) GW270.out) | (rw [add_block]; exact Nat.ne_of_lt (Nat.lt_of_lt_of_le (by have := World.block_lt_of_cell? _ _ hw278_0; first | rwa [add_block] at this | exact this) GW270.out)) | (show (Addr.add _ _).block ≠ _; rw [add_block]; exact Nat.ne_of_lt (Nat.lt_of_lt_of_le (by have := World.block_lt_of_cell? _ _ hw278_0; first | rwa [add_block] at this | exact this) GW270.out)) | (dsimp only; exact Nat.ne_of_lt (Nat.lt_of_lt_of_le (by have := World.block_lt_of_cell? _ _ hw278_0; first | rwa [add_block] at this | exact this) GW270.out))) _).trans (hHeld.2.2.2.2.2.2.2.2.2.2.2.2.2.1)))), ((cell_far (p := ⟨gb270, _, none⟩) (by first | exact Nat.ne_of_lt (Nat.lt_of_lt_of_le (by have := World.block_lt_of_cell? _ _ hw279_0; first | rwa [add_block] at this | exact this) GW270.out) | (rw [add_block]; exact Nat.ne_of_lt (Nat.lt_of_lt_of_le (by have := World.block_lt_of_cell? _ _ hw279_0; first | rwa [add_block] at this | exact this) GW270.out)) | (show (Addr.add _ _).block ≠ _; rw [add_block]; exact Nat.ne_of_lt (Nat.lt_of_lt_of_le (by have := World.block_lt_of_cell? _ _ hw279_0; first | rwa [add_block] at this | exact this) GW270.out)) | (dsimp only; exact Nat.ne_of_lt (Nat.lt_of_lt_of_le (by have := World.block_lt_of_cell? _ _ hw279_0; first | rwa [add_block] at this | exact this) GW270.out))) _).trans (((cell_far (p := ⟨gb270, _, none⟩) (by first | exact Nat.ne_of_lt (Nat.lt_of_lt_of_le (by have := World.block_lt_of_cell? _ _ hw279_0; first | rwa [add_block] at this | exact this) GW270.out) | (rw [add_block]; exact Nat.ne_of_lt (Nat.lt_of_lt_of_le (by have := World.block_lt_of_cell? _ _ hw279_0; first | rwa [add_block] at this | exact this) GW270.out)) | (show (Addr.add _ _).block ≠ _; rw [add_block]; exact Nat.ne_of_lt (Nat.lt_of_lt_of_le (by have := World.block_lt_of_cell? _ _ hw279_0; first | rwa [add_block] at this | exact this) GW270.out)) | (dsimp only; exact Nat.ne_of_lt (Nat.lt_of_lt_of_le (by have := World.block_lt_of_cell? _ _ hw279_0; first | rwa [add_block] at this | exact this) GW270.out))) _).trans (hHeld.2.2.2.2.2.2.2.2.2.2.2.2.2.2))))⟩ (fun hHeld => ?_)
               clear hK K
               refine done_ (done_of HT_.out (by kernel_rfl)) ?_
               try go_wp2
               refine bodyPost_ret (results_cell_row rfl _ _ gb270 45 #[.int .i64 (wrap64 ((wrap64 (t272 + (rd ((rd_T32 l2 a0_0).f6) 0))) + (wrap64 (((rd_T32 l2 a0_0).f8) * t277)))), .int .i64 (wrap64 ((wrap64 (t273 + (rd ((rd_T32 l2 a0_0).f7) 0))) + (wrap64 (((rd_T32 l2 a0_0).f8) * t277))))] (0, 0) _ rfl (by (with_reducible repeat (first | refine blk_drewN ?_ _ | refine blk_drew ?_ | refine blk_alloc ?_ _)); refine blk_put (cs := #[.int .i64 (wrap64 ((wrap64 (t272 + (rd ((rd_T32 l2 a0_0).f6) 0))) + (wrap64 (((rd_T32 l2 a0_0).f8) * t277)))), .int .i64 0]) ?_ 1 _ rfl; (with_reducible repeat (first | refine blk_drewN ?_ _ | refine blk_drew ?_ | refine blk_alloc ?_ _)); refine blk_put (cs := #[.int .i64 0, .int .i64 0]) ?_ 0 _ rfl; (with_reducible repeat (first | refine blk_drewN ?_ _ | refine blk_drew ?_ | refine blk_alloc ?_ _)); exact BK270.out) Try.underlying45 rfl (by kernel_rfl)) rfl ?_
               exact ⟨by first | rfl | (simp [errW_none, errW_some] <;> rfl) | (simp [*, errW_none, errW_some] <;> rfl), by repeat (first | (with_reducible first | exact HB.out | apply below_alloc | apply pw_below_drewN | apply below_drew1 | refine below_set ?_ GE269.out | refine below_set ?_ GE270.out | refine below_set ?_ GE274.out | refine below_set ?_ GE276.out) | exact HB.out)⟩
             · rw [if_neg c17] at H
               exact absurd H (by simp)
           · rw [if_neg c16] at H
             exact absurd H (by simp)
         · rw [if_neg c14] at H
           exact absurd H (by simp)
       · rw [if_neg c13] at H
         exact absurd H (by simp)
     · rw [if_neg c11] at H
       exact absurd H (by simp)
   · rw [if_neg c10] at H
     exact absurd H (by simp)

end Go.Proofs.Ytagpbgabcenodaa.PB
