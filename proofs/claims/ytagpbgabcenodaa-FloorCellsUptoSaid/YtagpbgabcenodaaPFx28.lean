-- PRINTED by print.py (a twelfth state) out of the translation. Not trusted: Lean checks it.
import Derived.Test.YtagpbgabcenodaaPFx0
namespace Go.Proofs.Ytagpbgabcenodaa.PF
open Go.RowKit Go.Proofs.YtagpbgabcenodaaW.PrintWords Go.Proofs.YtagpbgabcenodaaW.PrintLast Go.Proofs.YtagpbgabcenodaaW.PrintMore
attribute [local go_sem] max2_int min2_int max_two min_two max_three min_three max_four min_four   -- for this text's walks alone
set_option linter.unusedVariables false
set_option linter.unusedSimpArgs false

/-! ### netlist_flop: function 50 -/
def netlist_flop.j0 : Nat → List (S32) → Bool → ByteArray → Int → Int → Int → Bool → Option (Int)
 | 0, _, _, _, _, _, _, _ => none
 | k + 1, x1, x9, x203000, x203001, x203002, x203003, x203004 => if x9 = true then (some 7) else (if 0 ≤ x203001 then (if x203001 < (x1.length : Int) then (if ((rd_T32 x1 x203001).f1 = true) then (if ((rd_T32 x1 x203001).f2) = 1 then (if x203003 = 1 then (some 0) else (some 4)) else (some 0)) else (some 8)) else (none)) else (none))
def netlist_flop.f (k : Nat) (a0_0 : ByteArray) (a0_1 : Int) (a0_2 : Int) (a0_3 : Int) (a0_4 : Bool) (l1 : List (S32)) : Option (Int) := if a0_1 = (-1) then (some 0) else (if a0_1 < (-1) then (netlist_flop.j0 k l1 true a0_0 a0_1 a0_2 a0_3 a0_4) else (netlist_flop.j0 k l1 (decide (a0_1 ≥ (l1.length : Int))) a0_0 a0_1 a0_2 a0_3 a0_4))
theorem netlist_flop.mono_l : ∀ k, (∀ y0 y1 y2 y3 y4 y5 y6, LeO (netlist_flop.j0 k y0 y1 y2 y3 y4 y5 y6) (netlist_flop.j0 (k + 1) y0 y1 y2 y3 y4 y5 y6))
 | 0 => fun _ _ _ _ _ _ _ r h => by simp [netlist_flop.j0] at h
 | k + 1 => by
  have ih0 := netlist_flop.mono_l k
  · intro y0 y1 y2 y3 y4 y5 y6
    unfold netlist_flop.j0
    repeat' first
    | (with_reducible exact ih0 _ _ _ _ _ _ _)
    | (with_reducible exact LeO.refl _)
    | (with_reducible exact LeO.none _)
    | (with_reducible refine LeO.ite ?_ ?_)
    | (with_reducible refine LeO.bind ?_ (fun _ => ?_))
    | exact ih0 _ _ _ _ _ _ _
    | exact LeO.none _
    | refine LeO.ite ?_ ?_
    | refine LeO.bind ?_ (fun _ => ?_)
theorem netlist_flop.mono : ∀ a0 a1 a2 a3 a4 a5 k, LeO (netlist_flop.f k a0 a1 a2 a3 a4 a5) (netlist_flop.f (k + 1) a0 a1 a2 a3 a4 a5) := by
 intro a0 a1 a2 a3 a4 a5 k
 have ih0 := netlist_flop.mono_l k
 unfold netlist_flop.f
 repeat' first
  | (with_reducible exact ih0 _ _ _ _ _ _ _)
  | (with_reducible exact LeO.refl _)
  | (with_reducible exact LeO.none _)
  | (with_reducible refine LeO.ite ?_ ?_)
  | (with_reducible refine LeO.bind ?_ (fun _ => ?_))
  | exact ih0 _ _ _ _ _ _ _
  | exact LeO.none _
  | refine LeO.ite ?_ ?_
  | refine LeO.bind ?_ (fun _ => ?_)
set_option maxHeartbeats 8000000 in
set_option maxRecDepth 100000 in
theorem netlist_flop.calls (k : Nat) (a0_0 : ByteArray) (a0_1 : Int) (a0_2 : Int) (a0_3 : Int) (a0_4 : Bool) (A1 : Option Addr) (c1 : Nat) (l1 : List (S32)) (r : Int) (w : World) (hr1 : Kd.C k32 w A1 l1.length l1) (hc1 : l1.length ≤ c1) (h : netlist_flop.f k a0_0 a0_1 a0_2 a0_3 a0_4 l1 = some r) :
 Calls Try.prog 50 #[.agg #[.string a0_0, .int .i64 a0_1, .int .i64 a0_2, .int .i64 a0_3, .bool a0_4], .slice A1 l1.length c1] w fun e w' => e = .returned (.int .i64 r) ∧ Below w.heap.size w w' := by
 have hu80 := Try.underlying80
 have HR1 := Aside0.mk hr1
 have HC1 := Aside0.mk hc1
 clear hr1 hc1
 have HB := Aside0.mk (Below.refl w.heap.size w)
 have H : (if a0_1 = (-1) then (some 0) else (if a0_1 < (-1) then (netlist_flop.j0 k l1 true a0_0 a0_1 a0_2 a0_3 a0_4) else (netlist_flop.j0 k l1 (decide (a0_1 ≥ (l1.length : Int))) a0_0 a0_1 a0_2 a0_3 a0_4))) = some r := h
 clear h
 by_cases c3 : a0_1 = (-1)
 · rw [if_pos c3] at H
   have c3b0 : (a0_1 == (-1)) = true := beq_iff_eq.mpr c3
   have c3b1 : (a0_1 != (-1)) = false := bne_eq_false_iff_eq.mpr c3
   clear c3
   obtain rfl := Option.some.inj H
   go_enter Try.func50, Try.ntmps50
   go_wp2_with (first | ((with_reducible refine gate_dst (N := 2) rfl ?_); (try (refine gate_guard (by rfl) ?_; dsimp only)); refine box_event ?hg (N := 2) ?hd (cs := #[.string a0_0, .int .i64 a0_1, .int .i64 a0_2, .int .i64 a0_3, .bool a0_4]) (t := 80) ?hr ?_; (case hd => rfl); (case hg => rfl); (case hr => first | (go_simp; done) | (go_simp; rfl)); intro gb202 hg w4 hbox hb; have n0_ := Aside0.mk (below_step (by repeat (first | (with_reducible first | exact HB.out | apply below_alloc | apply pw_below_drewN | apply below_drew1) | exact HB.out)) hb); have n1_ := Aside0.mk (hbox); have n2_ := Aside0.mk ((by rw [hg]; exact (below_size (by repeat (first | (with_reducible first | exact HB.out | apply below_alloc | apply pw_below_drewN | apply below_drew1) | exact HB.out))) : w.heap.size ≤ gb202)); have n3_ := Aside0.mk ((by rw [hg]; exact (below_size (by repeat (first | (with_reducible first | exact HB.out | apply below_alloc | apply pw_below_drewN | apply below_drew1) | exact HB.out))) : w.heap.size ≤ gb202)); clear HB; have HB := n0_; have BK202 := n1_; have GW202 := n2_; have GE202 := n3_; clear n0_ n1_ n2_ n3_; clear hb hbox hg; have hcz5_0 : w4.cell? ⟨gb202, 0, none⟩ = some (.string a0_0) := (blk_cell BK202.out 0).trans rfl; have hcz5_1 : w4.cell? ⟨gb202, 1, none⟩ = some (.int .i64 a0_1) := (blk_cell BK202.out 1).trans rfl; have hcz5_2 : w4.cell? ⟨gb202, 2, none⟩ = some (.int .i64 a0_2) := (blk_cell BK202.out 2).trans rfl; have hcz5_3 : w4.cell? ⟨gb202, 3, none⟩ = some (.int .i64 a0_3) := (blk_cell BK202.out 3).trans rfl; have hcz5_4 : w4.cell? ⟨gb202, 4, none⟩ = some (.bool a0_4) := (blk_cell BK202.out 4).trans rfl; have hfz5_0 := blk_frozen BK202.out 0; have hfz5_1 := blk_frozen BK202.out 1; have hfz5_2 := blk_frozen BK202.out 2; have hfz5_3 := blk_frozen BK202.out 3; have hfz5_4 := blk_frozen BK202.out 4))
   go_ret
   exact ⟨by first | rfl | (simp [errW_none, errW_some] <;> rfl) | (simp [*, errW_none, errW_some] <;> rfl), by repeat (first | (with_reducible first | exact HB.out | apply below_alloc | apply pw_below_drewN | apply below_drew1 | refine below_set ?_ GE202.out) | exact HB.out)⟩
 rw [if_neg c3] at H
 have c3b0 : (a0_1 == (-1)) = false := beq_eq_false_iff_ne.mpr c3
 have c3b1 : (a0_1 != (-1)) = true := bne_iff_ne.mpr c3
 have HC6 := Aside0.mk H
 clear H
 go_enter Try.func50, Try.ntmps50
 go_upto_region 3 with (first | ((with_reducible refine gate_dst (N := 2) rfl ?_); (try (refine gate_guard (by rfl) ?_; dsimp only)); refine box_event ?hg (N := 2) ?hd (cs := #[.string a0_0, .int .i64 a0_1, .int .i64 a0_2, .int .i64 a0_3, .bool a0_4]) (t := 80) ?hr ?_; (case hd => rfl); (case hg => rfl); (case hr => first | (go_simp; done) | (go_simp; rfl)); intro gb202 hg w7 hbox hb; have n0_ := Aside0.mk (below_step (by repeat (first | (with_reducible first | exact HB.out | apply below_alloc | apply pw_below_drewN | apply below_drew1) | exact HB.out)) hb); have n1_ := Aside0.mk (hbox); have n2_ := Aside0.mk ((by rw [hg]; exact (below_size (by repeat (first | (with_reducible first | exact HB.out | apply below_alloc | apply pw_below_drewN | apply below_drew1) | exact HB.out))) : w.heap.size ≤ gb202)); have n3_ := Aside0.mk ((by rw [hg]; exact (below_size (by repeat (first | (with_reducible first | exact HB.out | apply below_alloc | apply pw_below_drewN | apply below_drew1) | exact HB.out))) : w.heap.size ≤ gb202)); clear HB; have HB := n0_; have BK202 := n1_; have GW202 := n2_; have GE202 := n3_; clear n0_ n1_ n2_ n3_; clear hb hbox hg; have hcz8_0 : w7.cell? ⟨gb202, 0, none⟩ = some (.string a0_0) := (blk_cell BK202.out 0).trans rfl; have hcz8_1 : w7.cell? ⟨gb202, 1, none⟩ = some (.int .i64 a0_1) := (blk_cell BK202.out 1).trans rfl; have hcz8_2 : w7.cell? ⟨gb202, 2, none⟩ = some (.int .i64 a0_2) := (blk_cell BK202.out 2).trans rfl; have hcz8_3 : w7.cell? ⟨gb202, 3, none⟩ = some (.int .i64 a0_3) := (blk_cell BK202.out 3).trans rfl; have hcz8_4 : w7.cell? ⟨gb202, 4, none⟩ = some (.bool a0_4) := (blk_cell BK202.out 4).trans rfl; have hfz8_0 := blk_frozen BK202.out 0; have hfz8_1 := blk_frozen BK202.out 1; have hfz8_2 := blk_frozen BK202.out 2; have hfz8_3 := blk_frozen BK202.out 3; have hfz8_4 := blk_frozen BK202.out 4))
 (try simp only [Act.put, List.setIfInBounds_toArray, List.set_cons_zero, List.set_cons_succ])
 go_cut [9] (fun v9 wc => ∃ (kq : Nat) (x9_5 : Bool), v9 = .bool x9_5 ∧ Aside0 (netlist_flop.j0 kq l1 x9_5 a0_0 a0_1 a0_2 a0_3 a0_4 = some r) ∧ Aside0 (kq ≤ k) ∧ Aside0 (wc.heap[gb202]? = some (.cells #[.string a0_0, .int .i64 a0_1, .int .i64 a0_2, .int .i64 a0_3, .bool a0_4] 80 (0, 0))) ∧ Aside0 (Below w.heap.size w wc))
 case first =>
  have H := HC6.out
  clear HC6
  by_cases c9 : a0_1 < (-1)
  · rw [if_pos c9] at H
    have c9b0 : decide (a0_1 < (-1)) = true := decide_eq_true c9
    clear c9
    (first | rw [c9b0] | (simp only [i64_w, i32_w]; rw [c9b0]) | skip)
    have H' := Aside0.mk H
    clear H
    have hcz10_0 : w7.cell? ⟨gb202, 0, none⟩ = some (.string a0_0) := (blk_cell BK202.out 0).trans rfl
    have hcz10_1 : w7.cell? ⟨gb202, 1, none⟩ = some (.int .i64 a0_1) := (blk_cell BK202.out 1).trans rfl
    have hcz10_2 : w7.cell? ⟨gb202, 2, none⟩ = some (.int .i64 a0_2) := (blk_cell BK202.out 2).trans rfl
    have hcz10_3 : w7.cell? ⟨gb202, 3, none⟩ = some (.int .i64 a0_3) := (blk_cell BK202.out 3).trans rfl
    have hcz10_4 : w7.cell? ⟨gb202, 4, none⟩ = some (.bool a0_4) := (blk_cell BK202.out 4).trans rfl
    have hfz10_0 := blk_frozen BK202.out 0
    have hfz10_1 := blk_frozen BK202.out 1
    have hfz10_2 := blk_frozen BK202.out 2
    have hfz10_3 := blk_frozen BK202.out 3
    have hfz10_4 := blk_frozen BK202.out 4
    go_wp2
    go_meet
    case rel => exact ⟨_, (true), (by first | rfl | (simp; done) | (simp [*]; done)), H', ⟨by first | omega | exact Nat.le_refl _⟩, ⟨by (with_reducible repeat (first | refine blk_drewN ?_ _ | refine blk_drew ?_ | refine blk_alloc ?_ _)); exact BK202.out⟩, ⟨by repeat (first | (with_reducible first | exact HB.out | apply below_alloc | apply pw_below_drewN | apply below_drew1 | refine below_set ?_ GE202.out) | exact HB.out)⟩⟩
  rw [if_neg c9] at H
  have c9b0 : decide (a0_1 < (-1)) = false := decide_eq_false c9
  clear c9
  (first | rw [c9b0] | (simp only [i64_w, i32_w]; rw [c9b0]) | skip)
  have H' := Aside0.mk H
  clear H
  have hcz11_0 : w7.cell? ⟨gb202, 0, none⟩ = some (.string a0_0) := (blk_cell BK202.out 0).trans rfl
  have hcz11_1 : w7.cell? ⟨gb202, 1, none⟩ = some (.int .i64 a0_1) := (blk_cell BK202.out 1).trans rfl
  have hcz11_2 : w7.cell? ⟨gb202, 2, none⟩ = some (.int .i64 a0_2) := (blk_cell BK202.out 2).trans rfl
  have hcz11_3 : w7.cell? ⟨gb202, 3, none⟩ = some (.int .i64 a0_3) := (blk_cell BK202.out 3).trans rfl
  have hcz11_4 : w7.cell? ⟨gb202, 4, none⟩ = some (.bool a0_4) := (blk_cell BK202.out 4).trans rfl
  have hfz11_0 := blk_frozen BK202.out 0
  have hfz11_1 := blk_frozen BK202.out 1
  have hfz11_2 := blk_frozen BK202.out 2
  have hfz11_3 := blk_frozen BK202.out 3
  have hfz11_4 := blk_frozen BK202.out 4
  go_wp2
  go_meet
  case rel => exact ⟨_, (decide (a0_1 ≥ (l1.length : Int))), (by first | rfl | (simp; done) | (simp [*]; done)), H', ⟨by first | omega | exact Nat.le_refl _⟩, ⟨by (with_reducible repeat (first | refine blk_drewN ?_ _ | refine blk_drew ?_ | refine blk_alloc ?_ _)); exact BK202.out⟩, ⟨by repeat (first | (with_reducible first | exact HB.out | apply below_alloc | apply pw_below_drewN | apply below_drew1 | refine below_set ?_ GE202.out) | exact HB.out)⟩⟩
 clear HC6
 try clear c1
 try clear p2
 try clear c3
 try clear c3b0
 try clear c3b1
 try clear c5
 try clear c9
 try clear c9b0
 try clear hcz10_0
 try clear hcz10_1
 try clear hcz10_2
 try clear hcz10_3
 try clear hcz10_4
 try clear hcz11_0
 try clear hcz11_1
 try clear hcz11_2
 try clear hcz11_3
 try clear hcz11_4
 try clear hcz5_0
 try clear hcz5_1
 try clear hcz5_2
 try clear hcz5_3
 try clear hcz5_4
 try clear hcz8_0
 try clear hcz8_1
 try clear hcz8_2
 try clear hcz8_3
 try clear hcz8_4
 try clear hfz10_0
 try clear hfz10_1
 try clear hfz10_2
 try clear hfz10_3
 try clear hfz10_4
 try clear hfz11_0
 try clear hfz11_1
 try clear hfz11_2
 try clear hfz11_3
 try clear hfz11_4
 try clear hfz5_0
 try clear hfz5_1
 try clear hfz5_2
 try clear hfz5_3
 try clear hfz5_4
 try clear hfz8_0
 try clear hfz8_1
 try clear hfz8_2
 try clear hfz8_3
 try clear hfz8_4
 obtain ⟨kq, x9_5, rfl, HA, HJ5, BK202, HB⟩ := hcut
 cases kq with
 | zero => exact absurd HA.out (by simp [netlist_flop.j0])
 | succ kj5 =>
  have H := HA.out
  clear HA
  simp only [netlist_flop.j0] at H
  by_cases c12 : x9_5 = true
  · subst c12
    have H1 : (some 7) = some r := by rw [if_pos rfl] at H; exact H
    clear H
    have H := H1
    clear H1
    obtain rfl := Option.some.inj H
    go_wp2
    go_ret
    exact ⟨by first | rfl | (simp [errW_none, errW_some] <;> rfl) | (simp [*, errW_none, errW_some] <;> rfl), by repeat (first | (with_reducible first | exact HB.out | apply below_alloc | apply pw_below_drewN | apply below_drew1 | refine below_set ?_ GE202.out) | exact HB.out)⟩
  replace c12 := Bool.eq_false_iff.mpr c12
  subst c12
  have H1 : (if 0 ≤ a0_1 then (if a0_1 < (l1.length : Int) then (if ((rd_T32 l1 a0_1).f1 = true) then (if ((rd_T32 l1 a0_1).f2) = 1 then (if a0_3 = 1 then (some 0) else (some 4)) else (some 0)) else (some 8)) else (none)) else (none)) = some r := by rw [if_neg (show ¬ (false = true) by decide)] at H; exact H
  clear H
  have H := H1
  clear H1
  by_cases c13 : 0 ≤ a0_1
  rotate_left
  · rw [if_neg c13] at H
    exact absurd H (by simp)
  rw [if_pos c13] at H
  have c13b0 : decide (0 ≤ a0_1) = true := decide_eq_true c13
  clear c13
  by_cases c14 : a0_1 < (l1.length : Int)
  rotate_left
  · rw [if_neg c14] at H
    exact absurd H (by simp)
  rw [if_pos c14] at H
  have c14b0 : decide (a0_1 < (l1.length : Int)) = true := decide_eq_true c14
  clear c14
  obtain ⟨bq15, hbq15⟩ : ∃ b_ : Bool, b_ = ((rd_T32 l1 a0_1).f1) := ⟨_, rfl⟩
  replace H : (if (bq15 = true) then (if ((rd_T32 l1 a0_1).f2) = 1 then (if a0_3 = 1 then (some 0) else (some 4)) else (some 0)) else (some 8)) = some r := by rw [← hbq15] at H; exact H
  have Nbq15 := Aside0.mk hbq15
  clear hbq15
  by_cases c16 : (bq15 = true)
  rotate_left
  · replace c16 := Bool.eq_false_iff.mpr c16
    subst c16
    have H1 : (some 8) = some r := by rw [if_neg (show ¬ (false = true) by decide)] at H; exact H
    clear H
    have H := H1
    clear H1
    obtain rfl := Option.some.inj H
    have hcz22_0 : wc.cell? ⟨gb202, 0, none⟩ = some (.string a0_0) := (blk_cell BK202.out 0).trans rfl
    have hcz22_1 : wc.cell? ⟨gb202, 1, none⟩ = some (.int .i64 a0_1) := (blk_cell BK202.out 1).trans rfl
    have hcz22_2 : wc.cell? ⟨gb202, 2, none⟩ = some (.int .i64 a0_2) := (blk_cell BK202.out 2).trans rfl
    have hcz22_3 : wc.cell? ⟨gb202, 3, none⟩ = some (.int .i64 a0_3) := (blk_cell BK202.out 3).trans rfl
    have hcz22_4 : wc.cell? ⟨gb202, 4, none⟩ = some (.bool a0_4) := (blk_cell BK202.out 4).trans rfl
    have hfz22_0 := blk_frozen BK202.out 0
    have hfz22_1 := blk_frozen BK202.out 1
    have hfz22_2 := blk_frozen BK202.out 2
    have hfz22_3 := blk_frozen BK202.out 3
    have hfz22_4 := blk_frozen BK202.out 4
    have p203 : 0 ≤ (a0_1 : Int) := of_decide_eq_true (by first | (with_reducible assumption) | assumption)
    have q203 : a0_1 < (l1.length : Int) := of_decide_eq_true (by first | (with_reducible assumption) | assumption)
    obtain ⟨ad203, A203_5, c203_5, A203_6, c203_6, A203_7, c203_7, e203, hx203_0, hx203_1, hx203_2, hx203_3, hx203_4, hx203_5, hx203_6, hx203_7, hx203_8, hx203_9, hx203_10, hl203_5, hi203_5, hl203_6, hi203_6, hl203_7, hi203_7⟩ := at_T32 HR1.out a0_1 p203 q203
    (try rw [← Nbq15.out] at hx203_1)
    cases e203
    replace hx203_0 := (HB.out.cell (World.block_lt_of_cell? w _ hx203_0)).trans hx203_0
    replace hx203_1 := (HB.out.cell (World.block_lt_of_cell? w _ hx203_1)).trans hx203_1
    replace hx203_2 := (HB.out.cell (World.block_lt_of_cell? w _ hx203_2)).trans hx203_2
    replace hx203_3 := (HB.out.cell (World.block_lt_of_cell? w _ hx203_3)).trans hx203_3
    replace hx203_4 := (HB.out.cell (World.block_lt_of_cell? w _ hx203_4)).trans hx203_4
    replace hx203_5 := (HB.out.cell (World.block_lt_of_cell? w _ hx203_5)).trans hx203_5
    replace hx203_6 := (HB.out.cell (World.block_lt_of_cell? w _ hx203_6)).trans hx203_6
    replace hx203_7 := (HB.out.cell (World.block_lt_of_cell? w _ hx203_7)).trans hx203_7
    replace hx203_8 := (HB.out.cell (World.block_lt_of_cell? w _ hx203_8)).trans hx203_8
    replace hx203_9 := (HB.out.cell (World.block_lt_of_cell? w _ hx203_9)).trans hx203_9
    replace hx203_10 := (HB.out.cell (World.block_lt_of_cell? w _ hx203_10)).trans hx203_10
    have HR203_5 := Aside0.mk hi203_5
    have HC203_5 := Aside0.mk hl203_5
    clear hi203_5 hl203_5
    have HR203_6 := Aside0.mk hi203_6
    have HC203_6 := Aside0.mk hl203_6
    clear hi203_6 hl203_6
    have HR203_7 := Aside0.mk hi203_7
    have HC203_7 := Aside0.mk hl203_7
    clear hi203_7 hl203_7
    replace p203 := eq_true p203
    replace q203 := eq_true q203
    go_wp2
    go_ret
    exact ⟨by first | rfl | (simp [errW_none, errW_some] <;> rfl) | (simp [*, errW_none, errW_some] <;> rfl), by repeat (first | (with_reducible first | exact HB.out | apply below_alloc | apply pw_below_drewN | apply below_drew1 | refine below_set ?_ GE202.out) | exact HB.out)⟩
  subst c16
  have H1 : (if ((rd_T32 l1 a0_1).f2) = 1 then (if a0_3 = 1 then (some 0) else (some 4)) else (some 0)) = some r := by rw [if_pos rfl] at H; exact H
  clear H
  have H := H1
  clear H1
  by_cases c17 : ((rd_T32 l1 a0_1).f2) = 1
  rotate_left
  · rw [if_neg c17] at H
    have c17b0 : (((rd_T32 l1 a0_1).f2) == 1) = false := beq_eq_false_iff_ne.mpr c17
    have c17b1 : (((rd_T32 l1 a0_1).f2) != 1) = true := bne_iff_ne.mpr c17
    obtain rfl := Option.some.inj H
    have hcz21_0 : wc.cell? ⟨gb202, 0, none⟩ = some (.string a0_0) := (blk_cell BK202.out 0).trans rfl
    have hcz21_1 : wc.cell? ⟨gb202, 1, none⟩ = some (.int .i64 a0_1) := (blk_cell BK202.out 1).trans rfl
    have hcz21_2 : wc.cell? ⟨gb202, 2, none⟩ = some (.int .i64 a0_2) := (blk_cell BK202.out 2).trans rfl
    have hcz21_3 : wc.cell? ⟨gb202, 3, none⟩ = some (.int .i64 a0_3) := (blk_cell BK202.out 3).trans rfl
    have hcz21_4 : wc.cell? ⟨gb202, 4, none⟩ = some (.bool a0_4) := (blk_cell BK202.out 4).trans rfl
    have hfz21_0 := blk_frozen BK202.out 0
    have hfz21_1 := blk_frozen BK202.out 1
    have hfz21_2 := blk_frozen BK202.out 2
    have hfz21_3 := blk_frozen BK202.out 3
    have hfz21_4 := blk_frozen BK202.out 4
    have p203 : 0 ≤ (a0_1 : Int) := of_decide_eq_true (by first | (with_reducible assumption) | assumption)
    have q203 : a0_1 < (l1.length : Int) := of_decide_eq_true (by first | (with_reducible assumption) | assumption)
    obtain ⟨ad203, A203_5, c203_5, A203_6, c203_6, A203_7, c203_7, e203, hx203_0, hx203_1, hx203_2, hx203_3, hx203_4, hx203_5, hx203_6, hx203_7, hx203_8, hx203_9, hx203_10, hl203_5, hi203_5, hl203_6, hi203_6, hl203_7, hi203_7⟩ := at_T32 HR1.out a0_1 p203 q203
    (try rw [← Nbq15.out] at hx203_1)
    cases e203
    replace hx203_0 := (HB.out.cell (World.block_lt_of_cell? w _ hx203_0)).trans hx203_0
    replace hx203_1 := (HB.out.cell (World.block_lt_of_cell? w _ hx203_1)).trans hx203_1
    replace hx203_2 := (HB.out.cell (World.block_lt_of_cell? w _ hx203_2)).trans hx203_2
    replace hx203_3 := (HB.out.cell (World.block_lt_of_cell? w _ hx203_3)).trans hx203_3
    replace hx203_4 := (HB.out.cell (World.block_lt_of_cell? w _ hx203_4)).trans hx203_4
    replace hx203_5 := (HB.out.cell (World.block_lt_of_cell? w _ hx203_5)).trans hx203_5
    replace hx203_6 := (HB.out.cell (World.block_lt_of_cell? w _ hx203_6)).trans hx203_6
    replace hx203_7 := (HB.out.cell (World.block_lt_of_cell? w _ hx203_7)).trans hx203_7
    replace hx203_8 := (HB.out.cell (World.block_lt_of_cell? w _ hx203_8)).trans hx203_8
    replace hx203_9 := (HB.out.cell (World.block_lt_of_cell? w _ hx203_9)).trans hx203_9
    replace hx203_10 := (HB.out.cell (World.block_lt_of_cell? w _ hx203_10)).trans hx203_10
    have HR203_5 := Aside0.mk hi203_5
    have HC203_5 := Aside0.mk hl203_5
    clear hi203_5 hl203_5
    have HR203_6 := Aside0.mk hi203_6
    have HC203_6 := Aside0.mk hl203_6
    clear hi203_6 hl203_6
    have HR203_7 := Aside0.mk hi203_7
    have HC203_7 := Aside0.mk hl203_7
    clear hi203_7 hl203_7
    replace p203 := eq_true p203
    replace q203 := eq_true q203
    have p204 : 0 ≤ (a0_1 : Int) := of_decide_eq_true (by first | (with_reducible assumption) | assumption)
    have q204 : a0_1 < (l1.length : Int) := of_decide_eq_true (by first | (with_reducible assumption) | assumption)
    obtain ⟨ad204, A204_5, c204_5, A204_6, c204_6, A204_7, c204_7, e204, hx204_0, hx204_1, hx204_2, hx204_3, hx204_4, hx204_5, hx204_6, hx204_7, hx204_8, hx204_9, hx204_10, hl204_5, hi204_5, hl204_6, hi204_6, hl204_7, hi204_7⟩ := at_T32 HR1.out a0_1 p204 q204
    (try rw [← Nbq15.out] at hx204_1)
    obtain rfl : ad203 = ad204 := (by injection e204)
    replace hx204_0 := (HB.out.cell (World.block_lt_of_cell? w _ hx204_0)).trans hx204_0
    replace hx204_1 := (HB.out.cell (World.block_lt_of_cell? w _ hx204_1)).trans hx204_1
    replace hx204_2 := (HB.out.cell (World.block_lt_of_cell? w _ hx204_2)).trans hx204_2
    replace hx204_3 := (HB.out.cell (World.block_lt_of_cell? w _ hx204_3)).trans hx204_3
    replace hx204_4 := (HB.out.cell (World.block_lt_of_cell? w _ hx204_4)).trans hx204_4
    replace hx204_5 := (HB.out.cell (World.block_lt_of_cell? w _ hx204_5)).trans hx204_5
    replace hx204_6 := (HB.out.cell (World.block_lt_of_cell? w _ hx204_6)).trans hx204_6
    replace hx204_7 := (HB.out.cell (World.block_lt_of_cell? w _ hx204_7)).trans hx204_7
    replace hx204_8 := (HB.out.cell (World.block_lt_of_cell? w _ hx204_8)).trans hx204_8
    replace hx204_9 := (HB.out.cell (World.block_lt_of_cell? w _ hx204_9)).trans hx204_9
    replace hx204_10 := (HB.out.cell (World.block_lt_of_cell? w _ hx204_10)).trans hx204_10
    have HR204_5 := Aside0.mk hi204_5
    have HC204_5 := Aside0.mk hl204_5
    clear hi204_5 hl204_5
    have HR204_6 := Aside0.mk hi204_6
    have HC204_6 := Aside0.mk hl204_6
    clear hi204_6 hl204_6
    have HR204_7 := Aside0.mk hi204_7
    have HC204_7 := Aside0.mk hl204_7
    clear hi204_7 hl204_7
    replace p204 := eq_true p204
    replace q204 := eq_true q204
    have ea_ := Option.some.inj (hx203_5.symm.trans hx204_5)
    injection ea_ with ea_ en_ ec_
    subst ea_
    subst ec_
    clear en_
    have ea_ := Option.some.inj (hx203_6.symm.trans hx204_6)
    injection ea_ with ea_ en_ ec_
    subst ea_
    subst ec_
    clear en_
    have ea_ := Option.some.inj (hx203_7.symm.trans hx204_7)
    injection ea_ with ea_ en_ ec_
    subst ea_
    subst ec_
    clear en_
    go_wp2
    go_ret
    exact ⟨by first | rfl | (simp [errW_none, errW_some] <;> rfl) | (simp [*, errW_none, errW_some] <;> rfl), by repeat (first | (with_reducible first | exact HB.out | apply below_alloc | apply pw_below_drewN | apply below_drew1 | refine below_set ?_ GE202.out) | exact HB.out)⟩
  rw [if_pos c17] at H
  have c17b0 : (((rd_T32 l1 a0_1).f2) == 1) = true := beq_iff_eq.mpr c17
  have c17b1 : (((rd_T32 l1 a0_1).f2) != 1) = false := bne_eq_false_iff_eq.mpr c17
  clear c17
  by_cases c18 : a0_3 = 1
  rotate_left
  · rw [if_neg c18] at H
    have c18b0 : (a0_3 == 1) = false := beq_eq_false_iff_ne.mpr c18
    have c18b1 : (a0_3 != 1) = true := bne_iff_ne.mpr c18
    obtain rfl := Option.some.inj H
    have hcz20_0 : wc.cell? ⟨gb202, 0, none⟩ = some (.string a0_0) := (blk_cell BK202.out 0).trans rfl
    have hcz20_1 : wc.cell? ⟨gb202, 1, none⟩ = some (.int .i64 a0_1) := (blk_cell BK202.out 1).trans rfl
    have hcz20_2 : wc.cell? ⟨gb202, 2, none⟩ = some (.int .i64 a0_2) := (blk_cell BK202.out 2).trans rfl
    have hcz20_3 : wc.cell? ⟨gb202, 3, none⟩ = some (.int .i64 a0_3) := (blk_cell BK202.out 3).trans rfl
    have hcz20_4 : wc.cell? ⟨gb202, 4, none⟩ = some (.bool a0_4) := (blk_cell BK202.out 4).trans rfl
    have hfz20_0 := blk_frozen BK202.out 0
    have hfz20_1 := blk_frozen BK202.out 1
    have hfz20_2 := blk_frozen BK202.out 2
    have hfz20_3 := blk_frozen BK202.out 3
    have hfz20_4 := blk_frozen BK202.out 4
    have p203 : 0 ≤ (a0_1 : Int) := of_decide_eq_true (by first | (with_reducible assumption) | assumption)
    have q203 : a0_1 < (l1.length : Int) := of_decide_eq_true (by first | (with_reducible assumption) | assumption)
    obtain ⟨ad203, A203_5, c203_5, A203_6, c203_6, A203_7, c203_7, e203, hx203_0, hx203_1, hx203_2, hx203_3, hx203_4, hx203_5, hx203_6, hx203_7, hx203_8, hx203_9, hx203_10, hl203_5, hi203_5, hl203_6, hi203_6, hl203_7, hi203_7⟩ := at_T32 HR1.out a0_1 p203 q203
    (try rw [← Nbq15.out] at hx203_1)
    cases e203
    replace hx203_0 := (HB.out.cell (World.block_lt_of_cell? w _ hx203_0)).trans hx203_0
    replace hx203_1 := (HB.out.cell (World.block_lt_of_cell? w _ hx203_1)).trans hx203_1
    replace hx203_2 := (HB.out.cell (World.block_lt_of_cell? w _ hx203_2)).trans hx203_2
    replace hx203_3 := (HB.out.cell (World.block_lt_of_cell? w _ hx203_3)).trans hx203_3
    replace hx203_4 := (HB.out.cell (World.block_lt_of_cell? w _ hx203_4)).trans hx203_4
    replace hx203_5 := (HB.out.cell (World.block_lt_of_cell? w _ hx203_5)).trans hx203_5
    replace hx203_6 := (HB.out.cell (World.block_lt_of_cell? w _ hx203_6)).trans hx203_6
    replace hx203_7 := (HB.out.cell (World.block_lt_of_cell? w _ hx203_7)).trans hx203_7
    replace hx203_8 := (HB.out.cell (World.block_lt_of_cell? w _ hx203_8)).trans hx203_8
    replace hx203_9 := (HB.out.cell (World.block_lt_of_cell? w _ hx203_9)).trans hx203_9
    replace hx203_10 := (HB.out.cell (World.block_lt_of_cell? w _ hx203_10)).trans hx203_10
    have HR203_5 := Aside0.mk hi203_5
    have HC203_5 := Aside0.mk hl203_5
    clear hi203_5 hl203_5
    have HR203_6 := Aside0.mk hi203_6
    have HC203_6 := Aside0.mk hl203_6
    clear hi203_6 hl203_6
    have HR203_7 := Aside0.mk hi203_7
    have HC203_7 := Aside0.mk hl203_7
    clear hi203_7 hl203_7
    replace p203 := eq_true p203
    replace q203 := eq_true q203
    have p204 : 0 ≤ (a0_1 : Int) := of_decide_eq_true (by first | (with_reducible assumption) | assumption)
    have q204 : a0_1 < (l1.length : Int) := of_decide_eq_true (by first | (with_reducible assumption) | assumption)
    obtain ⟨ad204, A204_5, c204_5, A204_6, c204_6, A204_7, c204_7, e204, hx204_0, hx204_1, hx204_2, hx204_3, hx204_4, hx204_5, hx204_6, hx204_7, hx204_8, hx204_9, hx204_10, hl204_5, hi204_5, hl204_6, hi204_6, hl204_7, hi204_7⟩ := at_T32 HR1.out a0_1 p204 q204
    (try rw [← Nbq15.out] at hx204_1)
    obtain rfl : ad203 = ad204 := (by injection e204)
    replace hx204_0 := (HB.out.cell (World.block_lt_of_cell? w _ hx204_0)).trans hx204_0
    replace hx204_1 := (HB.out.cell (World.block_lt_of_cell? w _ hx204_1)).trans hx204_1
    replace hx204_2 := (HB.out.cell (World.block_lt_of_cell? w _ hx204_2)).trans hx204_2
    replace hx204_3 := (HB.out.cell (World.block_lt_of_cell? w _ hx204_3)).trans hx204_3
    replace hx204_4 := (HB.out.cell (World.block_lt_of_cell? w _ hx204_4)).trans hx204_4
    replace hx204_5 := (HB.out.cell (World.block_lt_of_cell? w _ hx204_5)).trans hx204_5
    replace hx204_6 := (HB.out.cell (World.block_lt_of_cell? w _ hx204_6)).trans hx204_6
    replace hx204_7 := (HB.out.cell (World.block_lt_of_cell? w _ hx204_7)).trans hx204_7
    replace hx204_8 := (HB.out.cell (World.block_lt_of_cell? w _ hx204_8)).trans hx204_8
    replace hx204_9 := (HB.out.cell (World.block_lt_of_cell? w _ hx204_9)).trans hx204_9
    replace hx204_10 := (HB.out.cell (World.block_lt_of_cell? w _ hx204_10)).trans hx204_10
    have HR204_5 := Aside0.mk hi204_5
    have HC204_5 := Aside0.mk hl204_5
    clear hi204_5 hl204_5
    have HR204_6 := Aside0.mk hi204_6
    have HC204_6 := Aside0.mk hl204_6
    clear hi204_6 hl204_6
    have HR204_7 := Aside0.mk hi204_7
    have HC204_7 := Aside0.mk hl204_7
    clear hi204_7 hl204_7
    replace p204 := eq_true p204
    replace q204 := eq_true q204
    have ea_ := Option.some.inj (hx203_5.symm.trans hx204_5)
    injection ea_ with ea_ en_ ec_
    subst ea_
    subst ec_
    clear en_
    have ea_ := Option.some.inj (hx203_6.symm.trans hx204_6)
    injection ea_ with ea_ en_ ec_
    subst ea_
    subst ec_
    clear en_
    have ea_ := Option.some.inj (hx203_7.symm.trans hx204_7)
    injection ea_ with ea_ en_ ec_
    subst ea_
    subst ec_
    clear en_
    go_wp2
    go_ret
    exact ⟨by first | rfl | (simp [errW_none, errW_some] <;> rfl) | (simp [*, errW_none, errW_some] <;> rfl), by repeat (first | (with_reducible first | exact HB.out | apply below_alloc | apply pw_below_drewN | apply below_drew1 | refine below_set ?_ GE202.out) | exact HB.out)⟩
  rw [if_pos c18] at H
  have c18b0 : (a0_3 == 1) = true := beq_iff_eq.mpr c18
  have c18b1 : (a0_3 != 1) = false := bne_eq_false_iff_eq.mpr c18
  clear c18
  obtain rfl := Option.some.inj H
  have hcz19_0 : wc.cell? ⟨gb202, 0, none⟩ = some (.string a0_0) := (blk_cell BK202.out 0).trans rfl
  have hcz19_1 : wc.cell? ⟨gb202, 1, none⟩ = some (.int .i64 a0_1) := (blk_cell BK202.out 1).trans rfl
  have hcz19_2 : wc.cell? ⟨gb202, 2, none⟩ = some (.int .i64 a0_2) := (blk_cell BK202.out 2).trans rfl
  have hcz19_3 : wc.cell? ⟨gb202, 3, none⟩ = some (.int .i64 a0_3) := (blk_cell BK202.out 3).trans rfl
  have hcz19_4 : wc.cell? ⟨gb202, 4, none⟩ = some (.bool a0_4) := (blk_cell BK202.out 4).trans rfl
  have hfz19_0 := blk_frozen BK202.out 0
  have hfz19_1 := blk_frozen BK202.out 1
  have hfz19_2 := blk_frozen BK202.out 2
  have hfz19_3 := blk_frozen BK202.out 3
  have hfz19_4 := blk_frozen BK202.out 4
  have p203 : 0 ≤ (a0_1 : Int) := of_decide_eq_true (by first | (with_reducible assumption) | assumption)
  have q203 : a0_1 < (l1.length : Int) := of_decide_eq_true (by first | (with_reducible assumption) | assumption)
  obtain ⟨ad203, A203_5, c203_5, A203_6, c203_6, A203_7, c203_7, e203, hx203_0, hx203_1, hx203_2, hx203_3, hx203_4, hx203_5, hx203_6, hx203_7, hx203_8, hx203_9, hx203_10, hl203_5, hi203_5, hl203_6, hi203_6, hl203_7, hi203_7⟩ := at_T32 HR1.out a0_1 p203 q203
  (try rw [← Nbq15.out] at hx203_1)
  cases e203
  replace hx203_0 := (HB.out.cell (World.block_lt_of_cell? w _ hx203_0)).trans hx203_0
  replace hx203_1 := (HB.out.cell (World.block_lt_of_cell? w _ hx203_1)).trans hx203_1
  replace hx203_2 := (HB.out.cell (World.block_lt_of_cell? w _ hx203_2)).trans hx203_2
  replace hx203_3 := (HB.out.cell (World.block_lt_of_cell? w _ hx203_3)).trans hx203_3
  replace hx203_4 := (HB.out.cell (World.block_lt_of_cell? w _ hx203_4)).trans hx203_4
  replace hx203_5 := (HB.out.cell (World.block_lt_of_cell? w _ hx203_5)).trans hx203_5
  replace hx203_6 := (HB.out.cell (World.block_lt_of_cell? w _ hx203_6)).trans hx203_6
  replace hx203_7 := (HB.out.cell (World.block_lt_of_cell? w _ hx203_7)).trans hx203_7
  replace hx203_8 := (HB.out.cell (World.block_lt_of_cell? w _ hx203_8)).trans hx203_8
  replace hx203_9 := (HB.out.cell (World.block_lt_of_cell? w _ hx203_9)).trans hx203_9
  replace hx203_10 := (HB.out.cell (World.block_lt_of_cell? w _ hx203_10)).trans hx203_10
  have HR203_5 := Aside0.mk hi203_5
  have HC203_5 := Aside0.mk hl203_5
  clear hi203_5 hl203_5
  have HR203_6 := Aside0.mk hi203_6
  have HC203_6 := Aside0.mk hl203_6
  clear hi203_6 hl203_6
  have HR203_7 := Aside0.mk hi203_7
  have HC203_7 := Aside0.mk hl203_7
  clear hi203_7 hl203_7
  replace p203 := eq_true p203
  replace q203 := eq_true q203
  have p204 : 0 ≤ (a0_1 : Int) := of_decide_eq_true (by first | (with_reducible assumption) | assumption)
  have q204 : a0_1 < (l1.length : Int) := of_decide_eq_true (by first | (with_reducible assumption) | assumption)
  obtain ⟨ad204, A204_5, c204_5, A204_6, c204_6, A204_7, c204_7, e204, hx204_0, hx204_1, hx204_2, hx204_3, hx204_4, hx204_5, hx204_6, hx204_7, hx204_8, hx204_9, hx204_10, hl204_5, hi204_5, hl204_6, hi204_6, hl204_7, hi204_7⟩ := at_T32 HR1.out a0_1 p204 q204
  (try rw [← Nbq15.out] at hx204_1)
  obtain rfl : ad203 = ad204 := (by injection e204)
  replace hx204_0 := (HB.out.cell (World.block_lt_of_cell? w _ hx204_0)).trans hx204_0
  replace hx204_1 := (HB.out.cell (World.block_lt_of_cell? w _ hx204_1)).trans hx204_1
  replace hx204_2 := (HB.out.cell (World.block_lt_of_cell? w _ hx204_2)).trans hx204_2
  replace hx204_3 := (HB.out.cell (World.block_lt_of_cell? w _ hx204_3)).trans hx204_3
  replace hx204_4 := (HB.out.cell (World.block_lt_of_cell? w _ hx204_4)).trans hx204_4
  replace hx204_5 := (HB.out.cell (World.block_lt_of_cell? w _ hx204_5)).trans hx204_5
  replace hx204_6 := (HB.out.cell (World.block_lt_of_cell? w _ hx204_6)).trans hx204_6
  replace hx204_7 := (HB.out.cell (World.block_lt_of_cell? w _ hx204_7)).trans hx204_7
  replace hx204_8 := (HB.out.cell (World.block_lt_of_cell? w _ hx204_8)).trans hx204_8
  replace hx204_9 := (HB.out.cell (World.block_lt_of_cell? w _ hx204_9)).trans hx204_9
  replace hx204_10 := (HB.out.cell (World.block_lt_of_cell? w _ hx204_10)).trans hx204_10
  have HR204_5 := Aside0.mk hi204_5
  have HC204_5 := Aside0.mk hl204_5
  clear hi204_5 hl204_5
  have HR204_6 := Aside0.mk hi204_6
  have HC204_6 := Aside0.mk hl204_6
  clear hi204_6 hl204_6
  have HR204_7 := Aside0.mk hi204_7
  have HC204_7 := Aside0.mk hl204_7
  clear hi204_7 hl204_7
  replace p204 := eq_true p204
  replace q204 := eq_true q204
  have ea_ := Option.some.inj (hx203_5.symm.trans hx204_5)
  injection ea_ with ea_ en_ ec_
  subst ea_
  subst ec_
  clear en_
  have ea_ := Option.some.inj (hx203_6.symm.trans hx204_6)
  injection ea_ with ea_ en_ ec_
  subst ea_
  subst ec_
  clear en_
  have ea_ := Option.some.inj (hx203_7.symm.trans hx204_7)
  injection ea_ with ea_ en_ ec_
  subst ea_
  subst ec_
  clear en_
  go_wp2
  go_ret
  exact ⟨by first | rfl | (simp [errW_none, errW_some] <;> rfl) | (simp [*, errW_none, errW_some] <;> rfl), by repeat (first | (with_reducible first | exact HB.out | apply below_alloc | apply pw_below_drewN | apply below_drew1 | refine below_set ?_ GE202.out) | exact HB.out)⟩

end Go.Proofs.Ytagpbgabcenodaa.PF
