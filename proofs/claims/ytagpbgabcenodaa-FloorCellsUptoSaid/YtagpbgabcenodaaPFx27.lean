-- PRINTED by print.py (a twelfth state) out of the translation. Not trusted: Lean checks it.
import Derived.Test.YtagpbgabcenodaaPFx0
namespace Go.Proofs.Ytagpbgabcenodaa.PF
open Go.RowKit Go.Proofs.YtagpbgabcenodaaW.PrintWords Go.Proofs.YtagpbgabcenodaaW.PrintLast Go.Proofs.YtagpbgabcenodaaW.PrintMore
attribute [local go_sem] max2_int min2_int max_two min_two max_three min_three max_four min_four   -- for this text's walks alone
set_option linter.unusedVariables false
set_option linter.unusedSimpArgs false

/-! ### netlist_gate: function 49 -/
def netlist_gate.j0 : Nat → List (S32) → Bool → Int → Int → List Int → Option (Int)
 | 0, _, _, _, _, _ => none
 | k + 1, x1, x9, x199000, x199001, x199002 => if x9 = true then (some 7) else (if 0 ≤ x199000 then (if x199000 < (x1.length : Int) then (if (rd_T32 x1 x199000).f1 = true then (some 8) else (if ((rd_T32 x1 x199000).f2) = (x199002.length : Int) then (if ((rd_T32 x1 x199000).f3) = x199001 then (some 0) else (some 4)) else (some 4))) else (none)) else (none))
def netlist_gate.f (k : Nat) (a0_0 : Int) (a0_1 : Int) (l0_2 : List Int) (l1 : List (S32)) : Option (Int) := if a0_0 = (-1) then (some 0) else (if a0_0 < (-1) then (netlist_gate.j0 k l1 true a0_0 a0_1 l0_2) else (netlist_gate.j0 k l1 (decide (a0_0 ≥ (l1.length : Int))) a0_0 a0_1 l0_2))
theorem netlist_gate.mono_l : ∀ k, (∀ y0 y1 y2 y3 y4, LeO (netlist_gate.j0 k y0 y1 y2 y3 y4) (netlist_gate.j0 (k + 1) y0 y1 y2 y3 y4))
 | 0 => fun _ _ _ _ _ r h => by simp [netlist_gate.j0] at h
 | k + 1 => by
  have ih0 := netlist_gate.mono_l k
  · intro y0 y1 y2 y3 y4
    unfold netlist_gate.j0
    repeat' first
    | (with_reducible exact ih0 _ _ _ _ _)
    | (with_reducible exact LeO.refl _)
    | (with_reducible exact LeO.none _)
    | (with_reducible refine LeO.ite ?_ ?_)
    | (with_reducible refine LeO.bind ?_ (fun _ => ?_))
    | exact ih0 _ _ _ _ _
    | exact LeO.none _
    | refine LeO.ite ?_ ?_
    | refine LeO.bind ?_ (fun _ => ?_)
theorem netlist_gate.mono : ∀ a0 a1 a2 a3 k, LeO (netlist_gate.f k a0 a1 a2 a3) (netlist_gate.f (k + 1) a0 a1 a2 a3) := by
 intro a0 a1 a2 a3 k
 have ih0 := netlist_gate.mono_l k
 unfold netlist_gate.f
 repeat' first
  | (with_reducible exact ih0 _ _ _ _ _)
  | (with_reducible exact LeO.refl _)
  | (with_reducible exact LeO.none _)
  | (with_reducible refine LeO.ite ?_ ?_)
  | (with_reducible refine LeO.bind ?_ (fun _ => ?_))
  | exact ih0 _ _ _ _ _
  | exact LeO.none _
  | refine LeO.ite ?_ ?_
  | refine LeO.bind ?_ (fun _ => ?_)
set_option maxHeartbeats 8000000 in
set_option maxRecDepth 100000 in
theorem netlist_gate.calls (k : Nat) (a0_0 : Int) (a0_1 : Int) (A0_2 : Option Addr) (c0_2 : Nat) (l0_2 : List Int) (A1 : Option Addr) (c1 : Nat) (l1 : List (S32)) (r : Int) (w : World) (hr0_2 : Kd.C (Kd.int .i64) w A0_2 l0_2.length l0_2) (hc0_2 : l0_2.length ≤ c0_2) (hr1 : Kd.C k32 w A1 l1.length l1) (hc1 : l1.length ≤ c1) (h : netlist_gate.f k a0_0 a0_1 l0_2 l1 = some r) :
 Calls Try.prog 49 #[.agg #[.int .i64 a0_0, .int .u64 a0_1, .slice A0_2 l0_2.length c0_2], .slice A1 l1.length c1] w fun e w' => e = .returned (.int .i64 r) ∧ Below w.heap.size w w' := by
 have hu78 := Try.underlying78
 have HR0_2 := Aside0.mk hr0_2
 have HC0_2 := Aside0.mk hc0_2
 clear hr0_2 hc0_2
 have HR1 := Aside0.mk hr1
 have HC1 := Aside0.mk hc1
 clear hr1 hc1
 have HB := Aside0.mk (Below.refl w.heap.size w)
 have H : (if a0_0 = (-1) then (some 0) else (if a0_0 < (-1) then (netlist_gate.j0 k l1 true a0_0 a0_1 l0_2) else (netlist_gate.j0 k l1 (decide (a0_0 ≥ (l1.length : Int))) a0_0 a0_1 l0_2))) = some r := h
 clear h
 by_cases c3 : a0_0 = (-1)
 · rw [if_pos c3] at H
   have c3b0 : (a0_0 == (-1)) = true := beq_iff_eq.mpr c3
   have c3b1 : (a0_0 != (-1)) = false := bne_eq_false_iff_eq.mpr c3
   clear c3
   obtain rfl := Option.some.inj H
   go_enter Try.func49, Try.ntmps49
   go_wp2_with ((with_reducible refine gate_dst (N := 2) rfl ?_); (try (refine gate_guard (by rfl) ?_; dsimp only)); refine box_event ?hg (N := 2) ?hd (cs := #[.int .i64 a0_0, .int .u64 a0_1, .slice A0_2 l0_2.length c0_2]) (t := 78) ?hr ?_; (case hd => rfl); (case hg => rfl); (case hr => first | (go_simp; done) | (go_simp; rfl)); intro gb198 hg w4 hbox hb; have n0_ := Aside0.mk (below_step (by repeat (first | (with_reducible first | exact HB.out | apply below_alloc | apply pw_below_drewN | apply below_drew1) | exact HB.out)) hb); have n1_ := Aside0.mk (hbox); have n2_ := Aside0.mk ((by rw [hg]; exact (below_size (by repeat (first | (with_reducible first | exact HB.out | apply below_alloc | apply pw_below_drewN | apply below_drew1) | exact HB.out))) : w.heap.size ≤ gb198)); have n3_ := Aside0.mk ((by rw [hg]; exact (below_size (by repeat (first | (with_reducible first | exact HB.out | apply below_alloc | apply pw_below_drewN | apply below_drew1) | exact HB.out))) : w.heap.size ≤ gb198)); clear HB; have HB := n0_; have BK198 := n1_; have GW198 := n2_; have GE198 := n3_; clear n0_ n1_ n2_ n3_; clear hb hbox hg; have hcz5_0 : w4.cell? ⟨gb198, 0, none⟩ = some (.int .i64 a0_0) := (blk_cell BK198.out 0).trans rfl; have hcz5_1 : w4.cell? ⟨gb198, 1, none⟩ = some (.int .u64 a0_1) := (blk_cell BK198.out 1).trans rfl; have hcz5_2 : w4.cell? ⟨gb198, 2, none⟩ = some (.slice A0_2 l0_2.length c0_2) := (blk_cell BK198.out 2).trans rfl; have hfz5_0 := blk_frozen BK198.out 0; have hfz5_1 := blk_frozen BK198.out 1; have hfz5_2 := blk_frozen BK198.out 2)
   repeat (go_quiet (fail); try go_wp2_with fail)
   go_ret
   exact ⟨by first | rfl | (simp [errW_none, errW_some] <;> rfl) | (simp [*, errW_none, errW_some] <;> rfl), by repeat (first | (with_reducible first | exact HB.out | apply below_alloc | apply pw_below_drewN | apply below_drew1 | refine below_set ?_ GE198.out) | exact HB.out)⟩
 rw [if_neg c3] at H
 have c3b0 : (a0_0 == (-1)) = false := beq_eq_false_iff_ne.mpr c3
 have c3b1 : (a0_0 != (-1)) = true := bne_iff_ne.mpr c3
 have HC6 := Aside0.mk H
 clear H
 go_enter Try.func49, Try.ntmps49
 go_upto_region 3 with (first | ((with_reducible refine gate_dst (N := 2) rfl ?_); (try (refine gate_guard (by rfl) ?_; dsimp only)); refine box_event ?hg (N := 2) ?hd (cs := #[.int .i64 a0_0, .int .u64 a0_1, .slice A0_2 l0_2.length c0_2]) (t := 78) ?hr ?_; (case hd => rfl); (case hg => rfl); (case hr => first | (go_simp; done) | (go_simp; rfl)); intro gb198 hg w7 hbox hb; have n0_ := Aside0.mk (below_step (by repeat (first | (with_reducible first | exact HB.out | apply below_alloc | apply pw_below_drewN | apply below_drew1) | exact HB.out)) hb); have n1_ := Aside0.mk (hbox); have n2_ := Aside0.mk ((by rw [hg]; exact (below_size (by repeat (first | (with_reducible first | exact HB.out | apply below_alloc | apply pw_below_drewN | apply below_drew1) | exact HB.out))) : w.heap.size ≤ gb198)); have n3_ := Aside0.mk ((by rw [hg]; exact (below_size (by repeat (first | (with_reducible first | exact HB.out | apply below_alloc | apply pw_below_drewN | apply below_drew1) | exact HB.out))) : w.heap.size ≤ gb198)); clear HB; have HB := n0_; have BK198 := n1_; have GW198 := n2_; have GE198 := n3_; clear n0_ n1_ n2_ n3_; clear hb hbox hg; have hcz8_0 : w7.cell? ⟨gb198, 0, none⟩ = some (.int .i64 a0_0) := (blk_cell BK198.out 0).trans rfl; have hcz8_1 : w7.cell? ⟨gb198, 1, none⟩ = some (.int .u64 a0_1) := (blk_cell BK198.out 1).trans rfl; have hcz8_2 : w7.cell? ⟨gb198, 2, none⟩ = some (.slice A0_2 l0_2.length c0_2) := (blk_cell BK198.out 2).trans rfl; have hfz8_0 := blk_frozen BK198.out 0; have hfz8_1 := blk_frozen BK198.out 1; have hfz8_2 := blk_frozen BK198.out 2))
 repeat (go_quiet (fail); go_upto_region 3 with (fail))
 (try simp only [Act.put, List.setIfInBounds_toArray, List.set_cons_zero, List.set_cons_succ])
 go_cut [9] (fun v9 wc => ∃ (kq : Nat) (x9_5 : Bool), v9 = .bool x9_5 ∧ Aside0 (netlist_gate.j0 kq l1 x9_5 a0_0 a0_1 l0_2 = some r) ∧ Aside0 (kq ≤ k) ∧ Aside0 (wc.heap[gb198]? = some (.cells #[.int .i64 a0_0, .int .u64 a0_1, (.slice A0_2 l0_2.length c0_2)] 78 (0, 0))) ∧ Aside0 (Below w.heap.size w wc))
 case first =>
  have H := HC6.out
  clear HC6
  by_cases c9 : a0_0 < (-1)
  · rw [if_pos c9] at H
    have c9b0 : decide (a0_0 < (-1)) = true := decide_eq_true c9
    clear c9
    (first | rw [c9b0] | (simp only [i64_w, i32_w]; rw [c9b0]) | skip)
    have H' := Aside0.mk H
    clear H
    have hcz10_0 : w7.cell? ⟨gb198, 0, none⟩ = some (.int .i64 a0_0) := (blk_cell BK198.out 0).trans rfl
    have hcz10_1 : w7.cell? ⟨gb198, 1, none⟩ = some (.int .u64 a0_1) := (blk_cell BK198.out 1).trans rfl
    have hcz10_2 : w7.cell? ⟨gb198, 2, none⟩ = some (.slice A0_2 l0_2.length c0_2) := (blk_cell BK198.out 2).trans rfl
    have hfz10_0 := blk_frozen BK198.out 0
    have hfz10_1 := blk_frozen BK198.out 1
    have hfz10_2 := blk_frozen BK198.out 2
    go_wp2
    repeat (go_quiet (fail); try go_wp2)
    go_meet
    case rel => exact ⟨_, (true), (by first | rfl | (simp; done) | (simp [*]; done)), H', ⟨by first | omega | exact Nat.le_refl _⟩, ⟨by (with_reducible repeat (first | refine blk_drewN ?_ _ | refine blk_drew ?_ | refine blk_alloc ?_ _)); exact BK198.out⟩, ⟨by repeat (first | (with_reducible first | exact HB.out | apply below_alloc | apply pw_below_drewN | apply below_drew1 | refine below_set ?_ GE198.out) | exact HB.out)⟩⟩
  rw [if_neg c9] at H
  have c9b0 : decide (a0_0 < (-1)) = false := decide_eq_false c9
  clear c9
  (first | rw [c9b0] | (simp only [i64_w, i32_w]; rw [c9b0]) | skip)
  have H' := Aside0.mk H
  clear H
  have hcz11_0 : w7.cell? ⟨gb198, 0, none⟩ = some (.int .i64 a0_0) := (blk_cell BK198.out 0).trans rfl
  have hcz11_1 : w7.cell? ⟨gb198, 1, none⟩ = some (.int .u64 a0_1) := (blk_cell BK198.out 1).trans rfl
  have hcz11_2 : w7.cell? ⟨gb198, 2, none⟩ = some (.slice A0_2 l0_2.length c0_2) := (blk_cell BK198.out 2).trans rfl
  have hfz11_0 := blk_frozen BK198.out 0
  have hfz11_1 := blk_frozen BK198.out 1
  have hfz11_2 := blk_frozen BK198.out 2
  go_wp2
  repeat (go_quiet (fail); try go_wp2)
  go_meet
  case rel => exact ⟨_, (decide (a0_0 ≥ (l1.length : Int))), (by first | rfl | (simp; done) | (simp [*]; done)), H', ⟨by first | omega | exact Nat.le_refl _⟩, ⟨by (with_reducible repeat (first | refine blk_drewN ?_ _ | refine blk_drew ?_ | refine blk_alloc ?_ _)); exact BK198.out⟩, ⟨by repeat (first | (with_reducible first | exact HB.out | apply below_alloc | apply pw_below_drewN | apply below_drew1 | refine below_set ?_ GE198.out) | exact HB.out)⟩⟩
 clear HC6
 clear c3 c3b0 c3b1 hcz8_0 hcz8_1 hcz8_2 hfz8_0 hfz8_1 hfz8_2
 obtain ⟨kq, x9_5, rfl, HA, HJ5, BK198, HB⟩ := hcut
 cases kq with
 | zero => exact absurd HA.out (by simp [netlist_gate.j0])
 | succ kj5 =>
  have H := HA.out
  clear HA
  simp only [netlist_gate.j0] at H
  by_cases c12 : x9_5 = true
  · subst c12
    have H1 : (some 7) = some r := by rw [if_pos rfl] at H; exact H
    clear H
    have H := H1
    clear H1
    obtain rfl := Option.some.inj H
    go_wp2
    repeat (go_quiet (fail); try go_wp2)
    go_ret
    exact ⟨by first | rfl | (simp [errW_none, errW_some] <;> rfl) | (simp [*, errW_none, errW_some] <;> rfl), by repeat (first | (with_reducible first | exact HB.out | apply below_alloc | apply pw_below_drewN | apply below_drew1 | refine below_set ?_ GE198.out) | exact HB.out)⟩
  replace c12 := Bool.eq_false_iff.mpr c12
  subst c12
  have H1 : (if 0 ≤ a0_0 then (if a0_0 < (l1.length : Int) then (if (rd_T32 l1 a0_0).f1 = true then (some 8) else (if ((rd_T32 l1 a0_0).f2) = (l0_2.length : Int) then (if ((rd_T32 l1 a0_0).f3) = a0_1 then (some 0) else (some 4)) else (some 4))) else (none)) else (none)) = some r := by rw [if_neg (show ¬ (false = true) by decide)] at H; exact H
  clear H
  have H := H1
  clear H1
  by_cases c13 : 0 ≤ a0_0
  rotate_left
  · rw [if_neg c13] at H
    exact absurd H (by simp)
  rw [if_pos c13] at H
  have c13b0 : decide (0 ≤ a0_0) = true := decide_eq_true c13
  clear c13
  by_cases c14 : a0_0 < (l1.length : Int)
  rotate_left
  · rw [if_neg c14] at H
    exact absurd H (by simp)
  rw [if_pos c14] at H
  have c14b0 : decide (a0_0 < (l1.length : Int)) = true := decide_eq_true c14
  clear c14
  obtain ⟨bq15, hbq15⟩ : ∃ b_ : Bool, b_ = ((rd_T32 l1 a0_0).f1) := ⟨_, rfl⟩
  replace H : (if bq15 = true then (some 8) else (if ((rd_T32 l1 a0_0).f2) = (l0_2.length : Int) then (if ((rd_T32 l1 a0_0).f3) = a0_1 then (some 0) else (some 4)) else (some 4))) = some r := by rw [← hbq15] at H; exact H
  have Nbq15 := Aside0.mk hbq15
  clear hbq15
  by_cases c16 : bq15 = true
  · subst c16
    have H1 : (some 8) = some r := by rw [if_pos rfl] at H; exact H
    clear H
    have H := H1
    clear H1
    obtain rfl := Option.some.inj H
    have hcz17_0 : wc.cell? ⟨gb198, 0, none⟩ = some (.int .i64 a0_0) := (blk_cell BK198.out 0).trans rfl
    have hcz17_1 : wc.cell? ⟨gb198, 1, none⟩ = some (.int .u64 a0_1) := (blk_cell BK198.out 1).trans rfl
    have hcz17_2 : wc.cell? ⟨gb198, 2, none⟩ = some (.slice A0_2 l0_2.length c0_2) := (blk_cell BK198.out 2).trans rfl
    have hfz17_0 := blk_frozen BK198.out 0
    have hfz17_1 := blk_frozen BK198.out 1
    have hfz17_2 := blk_frozen BK198.out 2
    have p199 : 0 ≤ (a0_0 : Int) := of_decide_eq_true (by first | (with_reducible assumption) | assumption)
    have q199 : a0_0 < (l1.length : Int) := of_decide_eq_true (by first | (with_reducible assumption) | assumption)
    obtain ⟨ad199, A199_5, c199_5, A199_6, c199_6, A199_7, c199_7, e199, hx199_0, hx199_1, hx199_2, hx199_3, hx199_4, hx199_5, hx199_6, hx199_7, hx199_8, hx199_9, hx199_10, hl199_5, hi199_5, hl199_6, hi199_6, hl199_7, hi199_7⟩ := at_T32 HR1.out a0_0 p199 q199
    (try rw [← Nbq15.out] at hx199_1)
    cases e199
    replace hx199_0 := (HB.out.cell (World.block_lt_of_cell? w _ hx199_0)).trans hx199_0
    replace hx199_1 := (HB.out.cell (World.block_lt_of_cell? w _ hx199_1)).trans hx199_1
    replace hx199_2 := (HB.out.cell (World.block_lt_of_cell? w _ hx199_2)).trans hx199_2
    replace hx199_3 := (HB.out.cell (World.block_lt_of_cell? w _ hx199_3)).trans hx199_3
    replace hx199_4 := (HB.out.cell (World.block_lt_of_cell? w _ hx199_4)).trans hx199_4
    replace hx199_5 := (HB.out.cell (World.block_lt_of_cell? w _ hx199_5)).trans hx199_5
    replace hx199_6 := (HB.out.cell (World.block_lt_of_cell? w _ hx199_6)).trans hx199_6
    replace hx199_7 := (HB.out.cell (World.block_lt_of_cell? w _ hx199_7)).trans hx199_7
    replace hx199_8 := (HB.out.cell (World.block_lt_of_cell? w _ hx199_8)).trans hx199_8
    replace hx199_9 := (HB.out.cell (World.block_lt_of_cell? w _ hx199_9)).trans hx199_9
    replace hx199_10 := (HB.out.cell (World.block_lt_of_cell? w _ hx199_10)).trans hx199_10
    have HR199_5 := Aside0.mk hi199_5
    have HC199_5 := Aside0.mk hl199_5
    clear hi199_5 hl199_5
    have HR199_6 := Aside0.mk hi199_6
    have HC199_6 := Aside0.mk hl199_6
    clear hi199_6 hl199_6
    have HR199_7 := Aside0.mk hi199_7
    have HC199_7 := Aside0.mk hl199_7
    clear hi199_7 hl199_7
    replace p199 := eq_true p199
    replace q199 := eq_true q199
    go_wp2
    repeat (go_quiet (fail); try go_wp2)
    go_ret
    exact ⟨by first | rfl | (simp [errW_none, errW_some] <;> rfl) | (simp [*, errW_none, errW_some] <;> rfl), by repeat (first | (with_reducible first | exact HB.out | apply below_alloc | apply pw_below_drewN | apply below_drew1 | refine below_set ?_ GE198.out) | exact HB.out)⟩
  replace c16 := Bool.eq_false_iff.mpr c16
  subst c16
  have H1 : (if ((rd_T32 l1 a0_0).f2) = (l0_2.length : Int) then (if ((rd_T32 l1 a0_0).f3) = a0_1 then (some 0) else (some 4)) else (some 4)) = some r := by rw [if_neg (show ¬ (false = true) by decide)] at H; exact H
  clear H
  have H := H1
  clear H1
  by_cases c18 : ((rd_T32 l1 a0_0).f2) = (l0_2.length : Int)
  rotate_left
  · rw [if_neg c18] at H
    have c18b0 : (((rd_T32 l1 a0_0).f2) == (l0_2.length : Int)) = false := beq_eq_false_iff_ne.mpr c18
    have c18b1 : (((rd_T32 l1 a0_0).f2) != (l0_2.length : Int)) = true := bne_iff_ne.mpr c18
    obtain rfl := Option.some.inj H
    have hcz22_0 : wc.cell? ⟨gb198, 0, none⟩ = some (.int .i64 a0_0) := (blk_cell BK198.out 0).trans rfl
    have hcz22_1 : wc.cell? ⟨gb198, 1, none⟩ = some (.int .u64 a0_1) := (blk_cell BK198.out 1).trans rfl
    have hcz22_2 : wc.cell? ⟨gb198, 2, none⟩ = some (.slice A0_2 l0_2.length c0_2) := (blk_cell BK198.out 2).trans rfl
    have hfz22_0 := blk_frozen BK198.out 0
    have hfz22_1 := blk_frozen BK198.out 1
    have hfz22_2 := blk_frozen BK198.out 2
    have p199 : 0 ≤ (a0_0 : Int) := of_decide_eq_true (by first | (with_reducible assumption) | assumption)
    have q199 : a0_0 < (l1.length : Int) := of_decide_eq_true (by first | (with_reducible assumption) | assumption)
    obtain ⟨ad199, A199_5, c199_5, A199_6, c199_6, A199_7, c199_7, e199, hx199_0, hx199_1, hx199_2, hx199_3, hx199_4, hx199_5, hx199_6, hx199_7, hx199_8, hx199_9, hx199_10, hl199_5, hi199_5, hl199_6, hi199_6, hl199_7, hi199_7⟩ := at_T32 HR1.out a0_0 p199 q199
    (try rw [← Nbq15.out] at hx199_1)
    cases e199
    replace hx199_0 := (HB.out.cell (World.block_lt_of_cell? w _ hx199_0)).trans hx199_0
    replace hx199_1 := (HB.out.cell (World.block_lt_of_cell? w _ hx199_1)).trans hx199_1
    replace hx199_2 := (HB.out.cell (World.block_lt_of_cell? w _ hx199_2)).trans hx199_2
    replace hx199_3 := (HB.out.cell (World.block_lt_of_cell? w _ hx199_3)).trans hx199_3
    replace hx199_4 := (HB.out.cell (World.block_lt_of_cell? w _ hx199_4)).trans hx199_4
    replace hx199_5 := (HB.out.cell (World.block_lt_of_cell? w _ hx199_5)).trans hx199_5
    replace hx199_6 := (HB.out.cell (World.block_lt_of_cell? w _ hx199_6)).trans hx199_6
    replace hx199_7 := (HB.out.cell (World.block_lt_of_cell? w _ hx199_7)).trans hx199_7
    replace hx199_8 := (HB.out.cell (World.block_lt_of_cell? w _ hx199_8)).trans hx199_8
    replace hx199_9 := (HB.out.cell (World.block_lt_of_cell? w _ hx199_9)).trans hx199_9
    replace hx199_10 := (HB.out.cell (World.block_lt_of_cell? w _ hx199_10)).trans hx199_10
    have HR199_5 := Aside0.mk hi199_5
    have HC199_5 := Aside0.mk hl199_5
    clear hi199_5 hl199_5
    have HR199_6 := Aside0.mk hi199_6
    have HC199_6 := Aside0.mk hl199_6
    clear hi199_6 hl199_6
    have HR199_7 := Aside0.mk hi199_7
    have HC199_7 := Aside0.mk hl199_7
    clear hi199_7 hl199_7
    replace p199 := eq_true p199
    replace q199 := eq_true q199
    have p200 : 0 ≤ (a0_0 : Int) := of_decide_eq_true (by first | (with_reducible assumption) | assumption)
    have q200 : a0_0 < (l1.length : Int) := of_decide_eq_true (by first | (with_reducible assumption) | assumption)
    obtain ⟨ad200, A200_5, c200_5, A200_6, c200_6, A200_7, c200_7, e200, hx200_0, hx200_1, hx200_2, hx200_3, hx200_4, hx200_5, hx200_6, hx200_7, hx200_8, hx200_9, hx200_10, hl200_5, hi200_5, hl200_6, hi200_6, hl200_7, hi200_7⟩ := at_T32 HR1.out a0_0 p200 q200
    (try rw [← Nbq15.out] at hx200_1)
    obtain rfl : ad199 = ad200 := (by injection e200)
    replace hx200_0 := (HB.out.cell (World.block_lt_of_cell? w _ hx200_0)).trans hx200_0
    replace hx200_1 := (HB.out.cell (World.block_lt_of_cell? w _ hx200_1)).trans hx200_1
    replace hx200_2 := (HB.out.cell (World.block_lt_of_cell? w _ hx200_2)).trans hx200_2
    replace hx200_3 := (HB.out.cell (World.block_lt_of_cell? w _ hx200_3)).trans hx200_3
    replace hx200_4 := (HB.out.cell (World.block_lt_of_cell? w _ hx200_4)).trans hx200_4
    replace hx200_5 := (HB.out.cell (World.block_lt_of_cell? w _ hx200_5)).trans hx200_5
    replace hx200_6 := (HB.out.cell (World.block_lt_of_cell? w _ hx200_6)).trans hx200_6
    replace hx200_7 := (HB.out.cell (World.block_lt_of_cell? w _ hx200_7)).trans hx200_7
    replace hx200_8 := (HB.out.cell (World.block_lt_of_cell? w _ hx200_8)).trans hx200_8
    replace hx200_9 := (HB.out.cell (World.block_lt_of_cell? w _ hx200_9)).trans hx200_9
    replace hx200_10 := (HB.out.cell (World.block_lt_of_cell? w _ hx200_10)).trans hx200_10
    have HR200_5 := Aside0.mk hi200_5
    have HC200_5 := Aside0.mk hl200_5
    clear hi200_5 hl200_5
    have HR200_6 := Aside0.mk hi200_6
    have HC200_6 := Aside0.mk hl200_6
    clear hi200_6 hl200_6
    have HR200_7 := Aside0.mk hi200_7
    have HC200_7 := Aside0.mk hl200_7
    clear hi200_7 hl200_7
    replace p200 := eq_true p200
    replace q200 := eq_true q200
    have ea_ := Option.some.inj (hx199_5.symm.trans hx200_5)
    injection ea_ with ea_ en_ ec_
    subst ea_
    subst ec_
    clear en_
    have ea_ := Option.some.inj (hx199_6.symm.trans hx200_6)
    injection ea_ with ea_ en_ ec_
    subst ea_
    subst ec_
    clear en_
    have ea_ := Option.some.inj (hx199_7.symm.trans hx200_7)
    injection ea_ with ea_ en_ ec_
    subst ea_
    subst ec_
    clear en_
    go_wp2
    repeat (go_quiet (fail); try go_wp2)
    go_ret
    exact ⟨by first | rfl | (simp [errW_none, errW_some] <;> rfl) | (simp [*, errW_none, errW_some] <;> rfl), by repeat (first | (with_reducible first | exact HB.out | apply below_alloc | apply pw_below_drewN | apply below_drew1 | refine below_set ?_ GE198.out) | exact HB.out)⟩
  rw [if_pos c18] at H
  have c18b0 : (((rd_T32 l1 a0_0).f2) == (l0_2.length : Int)) = true := beq_iff_eq.mpr c18
  have c18b1 : (((rd_T32 l1 a0_0).f2) != (l0_2.length : Int)) = false := bne_eq_false_iff_eq.mpr c18
  clear c18
  by_cases c19 : ((rd_T32 l1 a0_0).f3) = a0_1
  rotate_left
  · rw [if_neg c19] at H
    have c19b0 : (((rd_T32 l1 a0_0).f3) == a0_1) = false := beq_eq_false_iff_ne.mpr c19
    have c19b1 : (((rd_T32 l1 a0_0).f3) != a0_1) = true := bne_iff_ne.mpr c19
    obtain rfl := Option.some.inj H
    have hcz21_0 : wc.cell? ⟨gb198, 0, none⟩ = some (.int .i64 a0_0) := (blk_cell BK198.out 0).trans rfl
    have hcz21_1 : wc.cell? ⟨gb198, 1, none⟩ = some (.int .u64 a0_1) := (blk_cell BK198.out 1).trans rfl
    have hcz21_2 : wc.cell? ⟨gb198, 2, none⟩ = some (.slice A0_2 l0_2.length c0_2) := (blk_cell BK198.out 2).trans rfl
    have hfz21_0 := blk_frozen BK198.out 0
    have hfz21_1 := blk_frozen BK198.out 1
    have hfz21_2 := blk_frozen BK198.out 2
    have p199 : 0 ≤ (a0_0 : Int) := of_decide_eq_true (by first | (with_reducible assumption) | assumption)
    have q199 : a0_0 < (l1.length : Int) := of_decide_eq_true (by first | (with_reducible assumption) | assumption)
    obtain ⟨ad199, A199_5, c199_5, A199_6, c199_6, A199_7, c199_7, e199, hx199_0, hx199_1, hx199_2, hx199_3, hx199_4, hx199_5, hx199_6, hx199_7, hx199_8, hx199_9, hx199_10, hl199_5, hi199_5, hl199_6, hi199_6, hl199_7, hi199_7⟩ := at_T32 HR1.out a0_0 p199 q199
    (try rw [← Nbq15.out] at hx199_1)
    cases e199
    replace hx199_0 := (HB.out.cell (World.block_lt_of_cell? w _ hx199_0)).trans hx199_0
    replace hx199_1 := (HB.out.cell (World.block_lt_of_cell? w _ hx199_1)).trans hx199_1
    replace hx199_2 := (HB.out.cell (World.block_lt_of_cell? w _ hx199_2)).trans hx199_2
    replace hx199_3 := (HB.out.cell (World.block_lt_of_cell? w _ hx199_3)).trans hx199_3
    replace hx199_4 := (HB.out.cell (World.block_lt_of_cell? w _ hx199_4)).trans hx199_4
    replace hx199_5 := (HB.out.cell (World.block_lt_of_cell? w _ hx199_5)).trans hx199_5
    replace hx199_6 := (HB.out.cell (World.block_lt_of_cell? w _ hx199_6)).trans hx199_6
    replace hx199_7 := (HB.out.cell (World.block_lt_of_cell? w _ hx199_7)).trans hx199_7
    replace hx199_8 := (HB.out.cell (World.block_lt_of_cell? w _ hx199_8)).trans hx199_8
    replace hx199_9 := (HB.out.cell (World.block_lt_of_cell? w _ hx199_9)).trans hx199_9
    replace hx199_10 := (HB.out.cell (World.block_lt_of_cell? w _ hx199_10)).trans hx199_10
    have HR199_5 := Aside0.mk hi199_5
    have HC199_5 := Aside0.mk hl199_5
    clear hi199_5 hl199_5
    have HR199_6 := Aside0.mk hi199_6
    have HC199_6 := Aside0.mk hl199_6
    clear hi199_6 hl199_6
    have HR199_7 := Aside0.mk hi199_7
    have HC199_7 := Aside0.mk hl199_7
    clear hi199_7 hl199_7
    replace p199 := eq_true p199
    replace q199 := eq_true q199
    have p200 : 0 ≤ (a0_0 : Int) := of_decide_eq_true (by first | (with_reducible assumption) | assumption)
    have q200 : a0_0 < (l1.length : Int) := of_decide_eq_true (by first | (with_reducible assumption) | assumption)
    obtain ⟨ad200, A200_5, c200_5, A200_6, c200_6, A200_7, c200_7, e200, hx200_0, hx200_1, hx200_2, hx200_3, hx200_4, hx200_5, hx200_6, hx200_7, hx200_8, hx200_9, hx200_10, hl200_5, hi200_5, hl200_6, hi200_6, hl200_7, hi200_7⟩ := at_T32 HR1.out a0_0 p200 q200
    (try rw [← Nbq15.out] at hx200_1)
    obtain rfl : ad199 = ad200 := (by injection e200)
    replace hx200_0 := (HB.out.cell (World.block_lt_of_cell? w _ hx200_0)).trans hx200_0
    replace hx200_1 := (HB.out.cell (World.block_lt_of_cell? w _ hx200_1)).trans hx200_1
    replace hx200_2 := (HB.out.cell (World.block_lt_of_cell? w _ hx200_2)).trans hx200_2
    replace hx200_3 := (HB.out.cell (World.block_lt_of_cell? w _ hx200_3)).trans hx200_3
    replace hx200_4 := (HB.out.cell (World.block_lt_of_cell? w _ hx200_4)).trans hx200_4
    replace hx200_5 := (HB.out.cell (World.block_lt_of_cell? w _ hx200_5)).trans hx200_5
    replace hx200_6 := (HB.out.cell (World.block_lt_of_cell? w _ hx200_6)).trans hx200_6
    replace hx200_7 := (HB.out.cell (World.block_lt_of_cell? w _ hx200_7)).trans hx200_7
    replace hx200_8 := (HB.out.cell (World.block_lt_of_cell? w _ hx200_8)).trans hx200_8
    replace hx200_9 := (HB.out.cell (World.block_lt_of_cell? w _ hx200_9)).trans hx200_9
    replace hx200_10 := (HB.out.cell (World.block_lt_of_cell? w _ hx200_10)).trans hx200_10
    have HR200_5 := Aside0.mk hi200_5
    have HC200_5 := Aside0.mk hl200_5
    clear hi200_5 hl200_5
    have HR200_6 := Aside0.mk hi200_6
    have HC200_6 := Aside0.mk hl200_6
    clear hi200_6 hl200_6
    have HR200_7 := Aside0.mk hi200_7
    have HC200_7 := Aside0.mk hl200_7
    clear hi200_7 hl200_7
    replace p200 := eq_true p200
    replace q200 := eq_true q200
    have ea_ := Option.some.inj (hx199_5.symm.trans hx200_5)
    injection ea_ with ea_ en_ ec_
    subst ea_
    subst ec_
    clear en_
    have ea_ := Option.some.inj (hx199_6.symm.trans hx200_6)
    injection ea_ with ea_ en_ ec_
    subst ea_
    subst ec_
    clear en_
    have ea_ := Option.some.inj (hx199_7.symm.trans hx200_7)
    injection ea_ with ea_ en_ ec_
    subst ea_
    subst ec_
    clear en_
    have p201 : 0 ≤ (a0_0 : Int) := of_decide_eq_true (by first | (with_reducible assumption) | assumption)
    have q201 : a0_0 < (l1.length : Int) := of_decide_eq_true (by first | (with_reducible assumption) | assumption)
    obtain ⟨ad201, A201_5, c201_5, A201_6, c201_6, A201_7, c201_7, e201, hx201_0, hx201_1, hx201_2, hx201_3, hx201_4, hx201_5, hx201_6, hx201_7, hx201_8, hx201_9, hx201_10, hl201_5, hi201_5, hl201_6, hi201_6, hl201_7, hi201_7⟩ := at_T32 HR1.out a0_0 p201 q201
    (try rw [← Nbq15.out] at hx201_1)
    obtain rfl : ad199 = ad201 := (by injection e201)
    replace hx201_0 := (HB.out.cell (World.block_lt_of_cell? w _ hx201_0)).trans hx201_0
    replace hx201_1 := (HB.out.cell (World.block_lt_of_cell? w _ hx201_1)).trans hx201_1
    replace hx201_2 := (HB.out.cell (World.block_lt_of_cell? w _ hx201_2)).trans hx201_2
    replace hx201_3 := (HB.out.cell (World.block_lt_of_cell? w _ hx201_3)).trans hx201_3
    replace hx201_4 := (HB.out.cell (World.block_lt_of_cell? w _ hx201_4)).trans hx201_4
    replace hx201_5 := (HB.out.cell (World.block_lt_of_cell? w _ hx201_5)).trans hx201_5
    replace hx201_6 := (HB.out.cell (World.block_lt_of_cell? w _ hx201_6)).trans hx201_6
    replace hx201_7 := (HB.out.cell (World.block_lt_of_cell? w _ hx201_7)).trans hx201_7
    replace hx201_8 := (HB.out.cell (World.block_lt_of_cell? w _ hx201_8)).trans hx201_8
    replace hx201_9 := (HB.out.cell (World.block_lt_of_cell? w _ hx201_9)).trans hx201_9
    replace hx201_10 := (HB.out.cell (World.block_lt_of_cell? w _ hx201_10)).trans hx201_10
    have HR201_5 := Aside0.mk hi201_5
    have HC201_5 := Aside0.mk hl201_5
    clear hi201_5 hl201_5
    have HR201_6 := Aside0.mk hi201_6
    have HC201_6 := Aside0.mk hl201_6
    clear hi201_6 hl201_6
    have HR201_7 := Aside0.mk hi201_7
    have HC201_7 := Aside0.mk hl201_7
    clear hi201_7 hl201_7
    replace p201 := eq_true p201
    replace q201 := eq_true q201
    have ea_ := Option.some.inj (hx199_5.symm.trans hx201_5)
    injection ea_ with ea_ en_ ec_
    subst ea_
    subst ec_
    clear en_
    have ea_ := Option.some.inj (hx199_6.symm.trans hx201_6)
    injection ea_ with ea_ en_ ec_
    subst ea_
    subst ec_
    clear en_
    have ea_ := Option.some.inj (hx199_7.symm.trans hx201_7)
    injection ea_ with ea_ en_ ec_
    subst ea_
    subst ec_
    clear en_
    go_wp2
    repeat (go_quiet (fail); try go_wp2)
    go_ret
    exact ⟨by first | rfl | (simp [errW_none, errW_some] <;> rfl) | (simp [*, errW_none, errW_some] <;> rfl), by repeat (first | (with_reducible first | exact HB.out | apply below_alloc | apply pw_below_drewN | apply below_drew1 | refine below_set ?_ GE198.out) | exact HB.out)⟩
  rw [if_pos c19] at H
  have c19b0 : (((rd_T32 l1 a0_0).f3) == a0_1) = true := beq_iff_eq.mpr c19
  have c19b1 : (((rd_T32 l1 a0_0).f3) != a0_1) = false := bne_eq_false_iff_eq.mpr c19
  clear c19
  obtain rfl := Option.some.inj H
  have hcz20_0 : wc.cell? ⟨gb198, 0, none⟩ = some (.int .i64 a0_0) := (blk_cell BK198.out 0).trans rfl
  have hcz20_1 : wc.cell? ⟨gb198, 1, none⟩ = some (.int .u64 a0_1) := (blk_cell BK198.out 1).trans rfl
  have hcz20_2 : wc.cell? ⟨gb198, 2, none⟩ = some (.slice A0_2 l0_2.length c0_2) := (blk_cell BK198.out 2).trans rfl
  have hfz20_0 := blk_frozen BK198.out 0
  have hfz20_1 := blk_frozen BK198.out 1
  have hfz20_2 := blk_frozen BK198.out 2
  have p199 : 0 ≤ (a0_0 : Int) := of_decide_eq_true (by first | (with_reducible assumption) | assumption)
  have q199 : a0_0 < (l1.length : Int) := of_decide_eq_true (by first | (with_reducible assumption) | assumption)
  obtain ⟨ad199, A199_5, c199_5, A199_6, c199_6, A199_7, c199_7, e199, hx199_0, hx199_1, hx199_2, hx199_3, hx199_4, hx199_5, hx199_6, hx199_7, hx199_8, hx199_9, hx199_10, hl199_5, hi199_5, hl199_6, hi199_6, hl199_7, hi199_7⟩ := at_T32 HR1.out a0_0 p199 q199
  (try rw [← Nbq15.out] at hx199_1)
  cases e199
  replace hx199_0 := (HB.out.cell (World.block_lt_of_cell? w _ hx199_0)).trans hx199_0
  replace hx199_1 := (HB.out.cell (World.block_lt_of_cell? w _ hx199_1)).trans hx199_1
  replace hx199_2 := (HB.out.cell (World.block_lt_of_cell? w _ hx199_2)).trans hx199_2
  replace hx199_3 := (HB.out.cell (World.block_lt_of_cell? w _ hx199_3)).trans hx199_3
  replace hx199_4 := (HB.out.cell (World.block_lt_of_cell? w _ hx199_4)).trans hx199_4
  replace hx199_5 := (HB.out.cell (World.block_lt_of_cell? w _ hx199_5)).trans hx199_5
  replace hx199_6 := (HB.out.cell (World.block_lt_of_cell? w _ hx199_6)).trans hx199_6
  replace hx199_7 := (HB.out.cell (World.block_lt_of_cell? w _ hx199_7)).trans hx199_7
  replace hx199_8 := (HB.out.cell (World.block_lt_of_cell? w _ hx199_8)).trans hx199_8
  replace hx199_9 := (HB.out.cell (World.block_lt_of_cell? w _ hx199_9)).trans hx199_9
  replace hx199_10 := (HB.out.cell (World.block_lt_of_cell? w _ hx199_10)).trans hx199_10
  have HR199_5 := Aside0.mk hi199_5
  have HC199_5 := Aside0.mk hl199_5
  clear hi199_5 hl199_5
  have HR199_6 := Aside0.mk hi199_6
  have HC199_6 := Aside0.mk hl199_6
  clear hi199_6 hl199_6
  have HR199_7 := Aside0.mk hi199_7
  have HC199_7 := Aside0.mk hl199_7
  clear hi199_7 hl199_7
  replace p199 := eq_true p199
  replace q199 := eq_true q199
  have p200 : 0 ≤ (a0_0 : Int) := of_decide_eq_true (by first | (with_reducible assumption) | assumption)
  have q200 : a0_0 < (l1.length : Int) := of_decide_eq_true (by first | (with_reducible assumption) | assumption)
  obtain ⟨ad200, A200_5, c200_5, A200_6, c200_6, A200_7, c200_7, e200, hx200_0, hx200_1, hx200_2, hx200_3, hx200_4, hx200_5, hx200_6, hx200_7, hx200_8, hx200_9, hx200_10, hl200_5, hi200_5, hl200_6, hi200_6, hl200_7, hi200_7⟩ := at_T32 HR1.out a0_0 p200 q200
  (try rw [← Nbq15.out] at hx200_1)
  obtain rfl : ad199 = ad200 := (by injection e200)
  replace hx200_0 := (HB.out.cell (World.block_lt_of_cell? w _ hx200_0)).trans hx200_0
  replace hx200_1 := (HB.out.cell (World.block_lt_of_cell? w _ hx200_1)).trans hx200_1
  replace hx200_2 := (HB.out.cell (World.block_lt_of_cell? w _ hx200_2)).trans hx200_2
  replace hx200_3 := (HB.out.cell (World.block_lt_of_cell? w _ hx200_3)).trans hx200_3
  replace hx200_4 := (HB.out.cell (World.block_lt_of_cell? w _ hx200_4)).trans hx200_4
  replace hx200_5 := (HB.out.cell (World.block_lt_of_cell? w _ hx200_5)).trans hx200_5
  replace hx200_6 := (HB.out.cell (World.block_lt_of_cell? w _ hx200_6)).trans hx200_6
  replace hx200_7 := (HB.out.cell (World.block_lt_of_cell? w _ hx200_7)).trans hx200_7
  replace hx200_8 := (HB.out.cell (World.block_lt_of_cell? w _ hx200_8)).trans hx200_8
  replace hx200_9 := (HB.out.cell (World.block_lt_of_cell? w _ hx200_9)).trans hx200_9
  replace hx200_10 := (HB.out.cell (World.block_lt_of_cell? w _ hx200_10)).trans hx200_10
  have HR200_5 := Aside0.mk hi200_5
  have HC200_5 := Aside0.mk hl200_5
  clear hi200_5 hl200_5
  have HR200_6 := Aside0.mk hi200_6
  have HC200_6 := Aside0.mk hl200_6
  clear hi200_6 hl200_6
  have HR200_7 := Aside0.mk hi200_7
  have HC200_7 := Aside0.mk hl200_7
  clear hi200_7 hl200_7
  replace p200 := eq_true p200
  replace q200 := eq_true q200
  have ea_ := Option.some.inj (hx199_5.symm.trans hx200_5)
  injection ea_ with ea_ en_ ec_
  subst ea_
  subst ec_
  clear en_
  have ea_ := Option.some.inj (hx199_6.symm.trans hx200_6)
  injection ea_ with ea_ en_ ec_
  subst ea_
  subst ec_
  clear en_
  have ea_ := Option.some.inj (hx199_7.symm.trans hx200_7)
  injection ea_ with ea_ en_ ec_
  subst ea_
  subst ec_
  clear en_
  have p201 : 0 ≤ (a0_0 : Int) := of_decide_eq_true (by first | (with_reducible assumption) | assumption)
  have q201 : a0_0 < (l1.length : Int) := of_decide_eq_true (by first | (with_reducible assumption) | assumption)
  obtain ⟨ad201, A201_5, c201_5, A201_6, c201_6, A201_7, c201_7, e201, hx201_0, hx201_1, hx201_2, hx201_3, hx201_4, hx201_5, hx201_6, hx201_7, hx201_8, hx201_9, hx201_10, hl201_5, hi201_5, hl201_6, hi201_6, hl201_7, hi201_7⟩ := at_T32 HR1.out a0_0 p201 q201
  (try rw [← Nbq15.out] at hx201_1)
  obtain rfl : ad199 = ad201 := (by injection e201)
  replace hx201_0 := (HB.out.cell (World.block_lt_of_cell? w _ hx201_0)).trans hx201_0
  replace hx201_1 := (HB.out.cell (World.block_lt_of_cell? w _ hx201_1)).trans hx201_1
  replace hx201_2 := (HB.out.cell (World.block_lt_of_cell? w _ hx201_2)).trans hx201_2
  replace hx201_3 := (HB.out.cell (World.block_lt_of_cell? w _ hx201_3)).trans hx201_3
  replace hx201_4 := (HB.out.cell (World.block_lt_of_cell? w _ hx201_4)).trans hx201_4
  replace hx201_5 := (HB.out.cell (World.block_lt_of_cell? w _ hx201_5)).trans hx201_5
  replace hx201_6 := (HB.out.cell (World.block_lt_of_cell? w _ hx201_6)).trans hx201_6
  replace hx201_7 := (HB.out.cell (World.block_lt_of_cell? w _ hx201_7)).trans hx201_7
  replace hx201_8 := (HB.out.cell (World.block_lt_of_cell? w _ hx201_8)).trans hx201_8
  replace hx201_9 := (HB.out.cell (World.block_lt_of_cell? w _ hx201_9)).trans hx201_9
  replace hx201_10 := (HB.out.cell (World.block_lt_of_cell? w _ hx201_10)).trans hx201_10
  have HR201_5 := Aside0.mk hi201_5
  have HC201_5 := Aside0.mk hl201_5
  clear hi201_5 hl201_5
  have HR201_6 := Aside0.mk hi201_6
  have HC201_6 := Aside0.mk hl201_6
  clear hi201_6 hl201_6
  have HR201_7 := Aside0.mk hi201_7
  have HC201_7 := Aside0.mk hl201_7
  clear hi201_7 hl201_7
  replace p201 := eq_true p201
  replace q201 := eq_true q201
  have ea_ := Option.some.inj (hx199_5.symm.trans hx201_5)
  injection ea_ with ea_ en_ ec_
  subst ea_
  subst ec_
  clear en_
  have ea_ := Option.some.inj (hx199_6.symm.trans hx201_6)
  injection ea_ with ea_ en_ ec_
  subst ea_
  subst ec_
  clear en_
  have ea_ := Option.some.inj (hx199_7.symm.trans hx201_7)
  injection ea_ with ea_ en_ ec_
  subst ea_
  subst ec_
  clear en_
  go_wp2
  repeat (go_quiet (fail); try go_wp2)
  go_ret
  exact ⟨by first | rfl | (simp [errW_none, errW_some] <;> rfl) | (simp [*, errW_none, errW_some] <;> rfl), by repeat (first | (with_reducible first | exact HB.out | apply below_alloc | apply pw_below_drewN | apply below_drew1 | refine below_set ?_ GE198.out) | exact HB.out)⟩

end Go.Proofs.Ytagpbgabcenodaa.PF
