-- PRINTED by print.py (a twelfth state) out of the translation. Not trusted: Lean checks it.
import Derived.Test.YtagpbgabcenodaaPBx0
import Derived.Test.YtagpbgabcenodaaPBx7
namespace Go.Proofs.Ytagpbgabcenodaa.PB
open Go.RowKit Go.Proofs.YtagpbgabcenodaaW.PrintWords Go.Proofs.YtagpbgabcenodaaW.PrintLast Go.Proofs.YtagpbgabcenodaaW.PrintMore
attribute [local go_sem] max2_int min2_int max_two min_two max_three min_three max_four min_four   -- for this text's walks alone
set_option linter.unusedVariables false
set_option linter.unusedSimpArgs false

/-! ### tree_Load: function 21 -/
mutual
def tree_Load.l0 : Nat → List (S32) → List Int → List Int → Int → Int → Int → Int → List Int → List Int → Option (Int)
  | 0, _, _, _, _, _, _, _, _, _ => none
  | k + 1, x2, x3, x10, x11, x22, x23, x220000, x220001, x220002 => if x23 < x22 then (if 0 ≤ x220000 then (if x220000 < (x2.length : Int) then (if 0 < (((rd_T32 x2 x220000).f5).length : Int) then (tree_Load.l0 k x2 x3 x10 (wrap64 (x11 + (rd ((rd_T32 x2 x220000).f5) 0))) x22 (wrap64 (x23 + 1)) x220000 x220001 x220002) else (none)) else (none)) else (none)) else (tree_Load.l1 k x2 x3 x11 x10 (x10.length : Int) 0)
def tree_Load.l1 : Nat → List (S32) → List Int → Int → List Int → Int → Int → Option (Int)
  | 0, _, _, _, _, _, _ => none
  | k + 1, x2, x3, x11, x36, x37, x38 => if x38 < x37 then (if 0 ≤ x38 then (if x38 < (x36.length : Int) then (if 0 ≤ (rd x36 x38) then (if (rd x36 x38) < (x3.length : Int) then (if 0 ≤ (rd x3 (rd x36 x38)) then (if (rd x3 (rd x36 x38)) < (x2.length : Int) then (if 0 ≤ ((rd_T32 x2 (rd x3 (rd x36 x38))).f2) then (if ((rd_T32 x2 (rd x3 (rd x36 x38))).f2) < (((rd_T32 x2 (rd x3 (rd x36 x38))).f5).length : Int) then (tree_Load.l1 k x2 x3 (wrap64 (x11 + (rd ((rd_T32 x2 (rd x3 (rd x36 x38))).f5) ((rd_T32 x2 (rd x3 (rd x36 x38))).f2)))) x36 x37 (wrap64 (x38 + 1))) else (none)) else (none)) else (none)) else (none)) else (none)) else (none)) else (none)) else (none)) else (some x11)
end
def tree_Load.f (k : Nat) (a0_0 : Int) (l0_1 : List Int) (l0_2 : List Int) (a1 : Int) (l2 : List (S32)) (l3 : List Int) : Option (Int) := (tree_Kids.f k a0_0 l0_1 l0_2 a1).bind fun bt220 => (tree_Load.l0 k l2 l3 bt220.2 0 (bt220.1.length : Int) 0 a0_0 l0_1 l0_2)
theorem tree_Load.mono_l : ∀ k, (∀ y0 y1 y2 y3 y4 y5 y6 y7 y8, LeO (tree_Load.l0 k y0 y1 y2 y3 y4 y5 y6 y7 y8) (tree_Load.l0 (k + 1) y0 y1 y2 y3 y4 y5 y6 y7 y8)) ∧ (∀ y0 y1 y2 y3 y4 y5, LeO (tree_Load.l1 k y0 y1 y2 y3 y4 y5) (tree_Load.l1 (k + 1) y0 y1 y2 y3 y4 y5))
  | 0 => ⟨fun _ _ _ _ _ _ _ _ _ r h => by simp [tree_Load.l0] at h, fun _ _ _ _ _ _ r h => by simp [tree_Load.l1] at h⟩
  | k + 1 => by
    obtain ⟨ih0, ih1⟩ := tree_Load.mono_l k
    refine ⟨?_, ?_⟩
    · intro y0 y1 y2 y3 y4 y5 y6 y7 y8
      unfold tree_Load.l0
      repeat' first
      | (with_reducible exact ih0 _ _ _ _ _ _ _ _ _)
      | (with_reducible exact ih1 _ _ _ _ _ _)
      | (with_reducible exact tree_Kids.mono _ _ _ _ _)
      | (with_reducible exact LeO.refl _)
      | (with_reducible exact LeO.none _)
      | (with_reducible refine LeO.ite ?_ ?_)
      | (with_reducible refine LeO.bind ?_ (fun _ => ?_))
      | exact ih0 _ _ _ _ _ _ _ _ _
      | exact ih1 _ _ _ _ _ _
      | exact tree_Kids.mono _ _ _ _ _
      | exact LeO.none _
      | refine LeO.ite ?_ ?_
      | refine LeO.bind ?_ (fun _ => ?_)
    · intro y0 y1 y2 y3 y4 y5
      unfold tree_Load.l1
      repeat' first
      | (with_reducible exact ih0 _ _ _ _ _ _ _ _ _)
      | (with_reducible exact ih1 _ _ _ _ _ _)
      | (with_reducible exact tree_Kids.mono _ _ _ _ _)
      | (with_reducible exact LeO.refl _)
      | (with_reducible exact LeO.none _)
      | (with_reducible refine LeO.ite ?_ ?_)
      | (with_reducible refine LeO.bind ?_ (fun _ => ?_))
      | exact ih0 _ _ _ _ _ _ _ _ _
      | exact ih1 _ _ _ _ _ _
      | exact tree_Kids.mono _ _ _ _ _
      | exact LeO.none _
      | refine LeO.ite ?_ ?_
      | refine LeO.bind ?_ (fun _ => ?_)
theorem tree_Load.mono : ∀ a0 a1 a2 a3 a4 a5 k, LeO (tree_Load.f k a0 a1 a2 a3 a4 a5) (tree_Load.f (k + 1) a0 a1 a2 a3 a4 a5) := by
  intro a0 a1 a2 a3 a4 a5 k
  obtain ⟨ih0, ih1⟩ := tree_Load.mono_l k
  unfold tree_Load.f
  repeat' first
      | (with_reducible exact ih0 _ _ _ _ _ _ _ _ _)
      | (with_reducible exact ih1 _ _ _ _ _ _)
      | (with_reducible exact tree_Kids.mono _ _ _ _ _)
      | (with_reducible exact LeO.refl _)
      | (with_reducible exact LeO.none _)
      | (with_reducible refine LeO.ite ?_ ?_)
      | (with_reducible refine LeO.bind ?_ (fun _ => ?_))
      | exact ih0 _ _ _ _ _ _ _ _ _
      | exact ih1 _ _ _ _ _ _
      | exact tree_Kids.mono _ _ _ _ _
      | exact LeO.none _
      | refine LeO.ite ?_ ?_
      | refine LeO.bind ?_ (fun _ => ?_)
set_option maxHeartbeats 8000000 in
set_option maxRecDepth 100000 in
theorem tree_Load.calls (k : Nat) (a0_0 : Int) (A0_1 : Option Addr) (c0_1 : Nat) (l0_1 : List Int) (A0_2 : Option Addr) (c0_2 : Nat) (l0_2 : List Int) (a1 : Int) (A2 : Option Addr) (c2 : Nat) (l2 : List (S32)) (A3 : Option Addr) (c3 : Nat) (l3 : List Int) (r : Int) (w : World) (hr0_1 : Kd.C (Kd.int .i64) w A0_1 l0_1.length l0_1) (hc0_1 : l0_1.length ≤ c0_1) (hr0_2 : Kd.C (Kd.int .i64) w A0_2 l0_2.length l0_2) (hc0_2 : l0_2.length ≤ c0_2) (hr2 : Kd.C k32 w A2 l2.length l2) (hc2 : l2.length ≤ c2) (hr3 : Kd.C (Kd.int .i64) w A3 l3.length l3) (hc3 : l3.length ≤ c3) (h : tree_Load.f k a0_0 l0_1 l0_2 a1 l2 l3 = some r) :
    Calls Try.prog 21 #[.agg #[.int .i64 a0_0, .slice A0_1 l0_1.length c0_1, .slice A0_2 l0_2.length c0_2], .int .i64 a1, .slice A2 l2.length c2, .slice A3 l3.length c3] w fun e w' => e = .returned (.int .i64 r) ∧ Below w.heap.size w w' := by
  have hu24 := Try.underlying24
  have hu32 := Try.underlying32
  have HR0_1 := Aside0.mk hr0_1
  have HC0_1 := Aside0.mk hc0_1
  clear hr0_1 hc0_1
  have HR0_2 := Aside0.mk hr0_2
  have HC0_2 := Aside0.mk hc0_2
  clear hr0_2 hc0_2
  have HR2 := Aside0.mk hr2
  have HC2 := Aside0.mk hc2
  clear hr2 hc2
  have HR3 := Aside0.mk hr3
  have HC3 := Aside0.mk hc3
  clear hr3 hc3
  have HB := Aside0.mk (Below.refl w.heap.size w)
  have H : ((tree_Kids.f k a0_0 l0_1 l0_2 a1).bind fun bt220 => (tree_Load.l0 k l2 l3 bt220.2 0 (bt220.1.length : Int) 0 a0_0 l0_1 l0_2)) = some r := h
  clear h
  replace H := Option.bind_eq_some_iff.mp H
  obtain ⟨⟨t220, t223⟩, A50, H⟩ := H
  replace H : (tree_Load.l0 k l2 l3 t223 0 (t220.length : Int) 0 a0_0 l0_1 l0_2) = some r := H
  have A5 := Aside0.mk A50
  clear A50
  have H' := Aside0.mk H
  clear H
  go_enter Try.func21, Try.ntmps21
  go_wp2_with (first | ((with_reducible refine gate_dst (N := 4) rfl ?_); refine box_event ?hg (N := 4) ?hd (cs := #[.int .i64 a0_0, .slice A0_1 l0_1.length c0_1, .slice A0_2 l0_2.length c0_2]) (t := 24) ?hr ?_; (case hd => rfl); (case hg => rfl); (case hr => first | (go_simp; done) | (go_simp; rfl)); intro gb219 hg w6 hbox hb; have n0_ := Aside0.mk (below_step (by repeat (first | (with_reducible first | exact HB.out | apply below_alloc | apply pw_below_drewN | apply below_drew1) | exact HB.out)) hb); have n1_ := Aside0.mk (hbox); have n2_ := Aside0.mk ((by rw [hg]; exact (below_size (by repeat (first | (with_reducible first | exact HB.out | apply below_alloc | apply pw_below_drewN | apply below_drew1) | exact HB.out))) : w.heap.size ≤ gb219)); have n3_ := Aside0.mk ((by rw [hg]; exact (below_size (by repeat (first | (with_reducible first | exact HB.out | apply below_alloc | apply pw_below_drewN | apply below_drew1) | exact HB.out))) : w.heap.size ≤ gb219)); clear HB; have HB := n0_; have BK219 := n1_; have GW219 := n2_; have GE219 := n3_; clear n0_ n1_ n2_ n3_; clear hb hbox hg; have hcz7_0 : w6.cell? ⟨gb219, 0, none⟩ = some (.int .i64 a0_0) := (blk_cell BK219.out 0).trans rfl; have hcz7_1 : w6.cell? ⟨gb219, 1, none⟩ = some (.slice A0_1 l0_1.length c0_1) := (blk_cell BK219.out 1).trans rfl; have hcz7_2 : w6.cell? ⟨gb219, 2, none⟩ = some (.slice A0_2 l0_2.length c0_2) := (blk_cell BK219.out 2).trans rfl; have hfz7_0 := blk_frozen BK219.out 0; have hfz7_1 := blk_frozen BK219.out 1; have hfz7_2 := blk_frozen BK219.out 2) | ((with_reducible refine gate_callee (f := 13) rfl ?_); refine goesL_ (some 18) rfl rfl Try.func13 (by kernel_rfl) rfl #[.agg #[.int .i64 a0_0, .slice A0_1 l0_1.length c0_1, .slice A0_2 l0_2.length c0_2], .int .i64 a1] rfl (by (try simp only [List.map_toArray, List.map_cons, List.map_nil]); first | done | rfl | (simp only [List.length_drop, List.length_take]; rfl)) ?_; (with_reducible refine (tree_Kids.calls k a0_0 _ _ l0_1 _ _ l0_2 a1 t220 t223 _ ?side1 ?side2 ?side3 ?side4 A5.out).mono ?_); (case side1 => repeat (first | exact (Kd.C_below HR0_1.out HB.out) | (with_reducible refine Kd.C_alloc ?_ _) | (with_reducible refine Kd.C_drewN ?_ _) | (with_reducible refine Kd.C_drew ?_))); (case side2 => exact HC0_1.out); (case side3 => repeat (first | exact (Kd.C_below HR0_2.out HB.out) | (with_reducible refine Kd.C_alloc ?_ _) | (with_reducible refine Kd.C_drewN ?_ _) | (with_reducible refine Kd.C_drew ?_))); (case side4 => exact HC0_2.out); rintro e w8 ⟨v221, v224, rfl, ho0, ho1, hb⟩; refine ⟨_, rfl, ?_⟩; have n0_ := Aside0.mk (Kd.R_lower ho0 (below_size (by repeat (first | (with_reducible first | exact HB.out | apply below_alloc | apply pw_below_drewN | apply below_drew1 | refine below_set ?_ GE219.out) | exact HB.out)))); have n1_ := Aside0.mk (Kd.R_lower ho1 (below_size (by repeat (first | (with_reducible first | exact HB.out | apply below_alloc | apply pw_below_drewN | apply below_drew1 | refine below_set ?_ GE219.out) | exact HB.out)))); have n2_ := Aside0.mk (blk_below (g := gb219) (o := .cells #[.int .i64 a0_0, .slice A0_1 l0_1.length c0_1, .slice A0_2 l0_2.length c0_2] 24 (0, 0)) (by (with_reducible repeat (first | refine blk_drewN ?_ _ | refine blk_drew ?_ | refine blk_alloc ?_ _)); exact BK219.out) hb); have n3_ := Aside0.mk (below_step (by repeat (first | (with_reducible first | exact HB.out | apply below_alloc | apply pw_below_drewN | apply below_drew1 | refine below_set ?_ GE219.out) | exact HB.out)) hb); clear BK219; clear HB; have HO222 := n0_; have HO225 := n1_; have BK219 := n2_; have HB := n3_; clear n0_ n1_ n2_ n3_; (try clear hb); (try clear hb2); (try clear hk); (try clear hi); (try clear ho0); (try clear ho1); obtain ⟨Ao9, co9, eo9⟩ := Kd.R_slice HO222.out; subst eo9))
  go_loopg [11, 23] k (fun kq v11 v23 w' => ∃ (x11_1 : Int) (x23_1 : Int), v11 = .int .i64 x11_1 ∧ v23 = .int .i64 x23_1 ∧ Aside0 (tree_Load.l0 kq l2 l3 t223 x11_1 (t220.length : Int) x23_1 a0_0 l0_1 l0_2 = some r) ∧ Aside0 (kq ≤ k) ∧ Aside0 (Kd.R (Kd.int .i64) 3 w' w.heap.size (fun _ => True) v224 t223) ∧ Aside0 (w'.heap[gb219]? = some (.cells #[.int .i64 a0_0, (.slice A0_1 l0_1.length c0_1), (.slice A0_2 l0_2.length c0_2)] 24 (0, 0))) ∧ Aside0 (Below w.heap.size w w'))
  case atStart => exact ⟨(0), (0), (by first | rfl | (simp; done) | (simp [*]; done)), (by first | rfl | (simp; done) | (simp [*]; done)), H', ⟨Nat.le_refl _⟩, ⟨by (with_reducible repeat (first | apply Kd.R_alloc | apply Kd.R_drewN | apply Kd.R_drew)); exact Kd.R_mono HO225.out (fun _ hk => trivial)⟩, ⟨by (with_reducible repeat (first | refine blk_drewN ?_ _ | refine blk_drew ?_ | refine blk_alloc ?_ _)); exact BK219.out⟩, ⟨by repeat (first | (with_reducible first | exact HB.out | apply below_alloc | apply pw_below_drewN | apply below_drew1 | refine below_set ?_ GE219.out) | exact HB.out)⟩⟩
  case round =>
    clear H'
    try clear c1
    try clear c2
    try clear p2
    try clear c3
    try clear hcz7_0
    try clear hcz7_1
    try clear hcz7_2
    try clear hfz7_0
    try clear hfz7_1
    try clear hfz7_2
    obtain ⟨x11_1, x23_1, rfl, rfl, HA, HK1, HO_10, BK219, HB⟩ := hrel
    cases gk with
    | zero => exact absurd HA.out (by simp [tree_Load.l0])
    | succ k1 =>
      have H := HA.out
      clear HA
      simp only [tree_Load.l0] at H
      by_cases c10 : x23_1 < (t220.length : Int)
      · rw [if_pos c10] at H
        have c10b0 : decide (x23_1 < (t220.length : Int)) = true := decide_eq_true c10
        clear c10
        by_cases c11 : 0 ≤ a0_0
        · rw [if_pos c11] at H
          have c11b0 : decide (0 ≤ a0_0) = true := decide_eq_true c11
          clear c11
          by_cases c12 : a0_0 < (l2.length : Int)
          · rw [if_pos c12] at H
            have c12b0 : decide (a0_0 < (l2.length : Int)) = true := decide_eq_true c12
            clear c12
            by_cases c13 : 0 < (((rd_T32 l2 a0_0).f5).length : Int)
            · rw [if_pos c13] at H
              have c13b0 : decide (0 < (((rd_T32 l2 a0_0).f5).length : Int)) = true := decide_eq_true c13
              have c13b1 : decide (0 < ((rd_T32 l2 a0_0).f5).length) = true := decide_eq_true (by omega)
              clear c13
              have H' := Aside0.mk H
              clear H
              have hcz14_0 : wr.cell? ⟨gb219, 0, none⟩ = some (.int .i64 a0_0) := (blk_cell BK219.out 0).trans rfl
              have hcz14_1 : wr.cell? ⟨gb219, 1, none⟩ = some (.slice A0_1 l0_1.length c0_1) := (blk_cell BK219.out 1).trans rfl
              have hcz14_2 : wr.cell? ⟨gb219, 2, none⟩ = some (.slice A0_2 l0_2.length c0_2) := (blk_cell BK219.out 2).trans rfl
              have hfz14_0 := blk_frozen BK219.out 0
              have hfz14_1 := blk_frozen BK219.out 1
              have hfz14_2 := blk_frozen BK219.out 2
              have p226 : 0 ≤ (a0_0 : Int) := of_decide_eq_true (by first | (with_reducible assumption) | assumption)
              have q226 : a0_0 < (l2.length : Int) := of_decide_eq_true (by first | (with_reducible assumption) | assumption)
              obtain ⟨ad226, A226_5, c226_5, A226_6, c226_6, A226_7, c226_7, e226, hx226_0, hx226_1, hx226_2, hx226_3, hx226_4, hx226_5, hx226_6, hx226_7, hx226_8, hx226_9, hx226_10, hl226_5, hi226_5, hl226_6, hi226_6, hl226_7, hi226_7⟩ := at_T32 HR2.out a0_0 p226 q226
              cases e226
              replace hx226_0 := (HB.out.cell (World.block_lt_of_cell? w _ hx226_0)).trans hx226_0
              replace hx226_1 := (HB.out.cell (World.block_lt_of_cell? w _ hx226_1)).trans hx226_1
              replace hx226_2 := (HB.out.cell (World.block_lt_of_cell? w _ hx226_2)).trans hx226_2
              replace hx226_3 := (HB.out.cell (World.block_lt_of_cell? w _ hx226_3)).trans hx226_3
              replace hx226_4 := (HB.out.cell (World.block_lt_of_cell? w _ hx226_4)).trans hx226_4
              replace hx226_5 := (HB.out.cell (World.block_lt_of_cell? w _ hx226_5)).trans hx226_5
              replace hx226_6 := (HB.out.cell (World.block_lt_of_cell? w _ hx226_6)).trans hx226_6
              replace hx226_7 := (HB.out.cell (World.block_lt_of_cell? w _ hx226_7)).trans hx226_7
              replace hx226_8 := (HB.out.cell (World.block_lt_of_cell? w _ hx226_8)).trans hx226_8
              replace hx226_9 := (HB.out.cell (World.block_lt_of_cell? w _ hx226_9)).trans hx226_9
              replace hx226_10 := (HB.out.cell (World.block_lt_of_cell? w _ hx226_10)).trans hx226_10
              have HR226_5 := Aside0.mk hi226_5
              have HC226_5 := Aside0.mk hl226_5
              clear hi226_5 hl226_5
              have HR226_6 := Aside0.mk hi226_6
              have HC226_6 := Aside0.mk hl226_6
              clear hi226_6 hl226_6
              have HR226_7 := Aside0.mk hi226_7
              have HC226_7 := Aside0.mk hl226_7
              clear hi226_7 hl226_7
              replace p226 := eq_true p226
              replace q226 := eq_true q226
              have p227 : 0 ≤ (0 : Int) := (by omega)
              have q227 : 0 < (((rd_T32 l2 a0_0).f5).length : Int) := of_decide_eq_true (by first | (with_reducible assumption) | assumption)
              obtain ⟨ad227, e227, hx227_0⟩ := Kd.at_int HR226_5.out 0 p227 q227
              cases e227
              have qi227 : (0 < ((rd_T32 l2 a0_0).f5).length) = True := eq_true (by omega)
              (try rw [show ((0 : Int)).toNat = 0 from rfl] at hx227_0)
              (try rw [Addr.add_zero'] at hx227_0)
              replace hx227_0 := (HB.out.cell (World.block_lt_of_cell? w _ hx227_0)).trans hx227_0
              replace p227 := eq_true p227
              replace q227 := eq_true q227
              go_wp2
              go_roundg k1
              case measure => have := HK1.out; omega
              case rel => exact ⟨(wrap64 (x11_1 + (rd ((rd_T32 l2 a0_0).f5) 0))), (wrap64 (x23_1 + 1)), (by first | rfl | (simp; done) | (simp [*]; done)), (by first | rfl | (simp; done) | (simp [*]; done)), H', ⟨by have := HK1.out; omega⟩, ⟨by (with_reducible repeat (first | apply Kd.R_alloc | apply Kd.R_drewN | apply Kd.R_drew)); exact HO_10.out⟩, ⟨by (with_reducible repeat (first | refine blk_drewN ?_ _ | refine blk_drew ?_ | refine blk_alloc ?_ _)); exact BK219.out⟩, ⟨by repeat (first | (with_reducible first | exact HB.out | apply below_alloc | apply pw_below_drewN | apply below_drew1 | refine below_set ?_ GE219.out) | exact HB.out)⟩⟩
            · rw [if_neg c13] at H
              exact absurd H (by simp)
          · rw [if_neg c12] at H
            exact absurd H (by simp)
        · rw [if_neg c11] at H
          exact absurd H (by simp)
      · rw [if_neg c10] at H
        have c10b0 : decide (x23_1 < (t220.length : Int)) = false := decide_eq_false c10
        clear c10
        have H' := Aside0.mk H
        clear H
        obtain ⟨Ao15, co15, eo15⟩ := Kd.R_slice HO_10.out
        subst eo15
        go_wp2
        go_loopg [11, 38] k1 (fun kq v11 v38 w' => ∃ (x11_2 : Int) (x38_2 : Int), v11 = .int .i64 x11_2 ∧ v38 = .int .i64 x38_2 ∧ Aside0 (tree_Load.l1 kq l2 l3 x11_2 t223 (t223.length : Int) x38_2 = some r) ∧ Aside0 (kq ≤ k1) ∧ Aside0 (Kd.R (Kd.int .i64) 3 w' w.heap.size (fun _ => True) (.slice Ao15 t223.length co15) t223) ∧ Aside0 (w'.heap[gb219]? = some (.cells #[.int .i64 a0_0, (.slice A0_1 l0_1.length c0_1), (.slice A0_2 l0_2.length c0_2)] 24 (0, 0))) ∧ Aside0 (Below w.heap.size w w'))
        case atStart => exact ⟨(x11_1), (0), (by first | rfl | (simp; done) | (simp [*]; done)), (by first | rfl | (simp; done) | (simp [*]; done)), H', ⟨Nat.le_refl _⟩, ⟨by (with_reducible repeat (first | apply Kd.R_alloc | apply Kd.R_drewN | apply Kd.R_drew)); exact HO_10.out⟩, ⟨by (with_reducible repeat (first | refine blk_drewN ?_ _ | refine blk_drew ?_ | refine blk_alloc ?_ _)); exact BK219.out⟩, ⟨by repeat (first | (with_reducible first | exact HB.out | apply below_alloc | apply pw_below_drewN | apply below_drew1 | refine below_set ?_ GE219.out) | exact HB.out)⟩⟩
        case round =>
          clear H'
          try clear c1
          try clear c2
          try clear p2
          try clear q2
          try clear hx2
          try clear qi2
          try clear c3
          try clear p6
          try clear c10
          try clear c10b0
          try clear c11
          try clear c11b0
          try clear c12
          try clear c12b0
          try clear c13
          try clear c13b0
          try clear c13b1
          try clear hcz14_0
          try clear hcz14_1
          try clear hcz14_2
          try clear hcz7_0
          try clear hcz7_1
          try clear hcz7_2
          try clear hfz14_0
          try clear hfz14_1
          try clear hfz14_2
          try clear hfz7_0
          try clear hfz7_1
          try clear hfz7_2
          try clear hx226_0
          try clear hx226_1
          try clear hx226_10
          try clear hx226_2
          try clear hx226_3
          try clear hx226_4
          try clear hx226_5
          try clear hx226_6
          try clear hx226_7
          try clear hx226_8
          try clear hx226_9
          try clear hx227_0
          try clear p2
          try clear p226
          try clear p227
          try clear q226
          try clear q227
          obtain ⟨x11_2, x38_2, rfl, rfl, HA, HK2, HO_36, BK219, HB⟩ := hrel
          cases gk with
          | zero => exact absurd HA.out (by simp [tree_Load.l1])
          | succ k2 =>
            have H := HA.out
            clear HA
            simp only [tree_Load.l1] at H
            by_cases c16 : x38_2 < (t223.length : Int)
            · rw [if_pos c16] at H
              have c16b0 : decide (x38_2 < (t223.length : Int)) = true := decide_eq_true c16
              clear c16
              by_cases c17 : 0 ≤ x38_2
              · rw [if_pos c17] at H
                have c17b0 : decide (0 ≤ x38_2) = true := decide_eq_true c17
                clear c17
                by_cases c18 : x38_2 < (t223.length : Int)
                · rw [if_pos c18] at H
                  have c18b0 : decide (x38_2 < (t223.length : Int)) = true := decide_eq_true c18
                  clear c18
                  by_cases c19 : 0 ≤ (rd t223 x38_2)
                  · rw [if_pos c19] at H
                    have c19b0 : decide (0 ≤ (rd t223 x38_2)) = true := decide_eq_true c19
                    clear c19
                    by_cases c20 : (rd t223 x38_2) < (l3.length : Int)
                    · rw [if_pos c20] at H
                      have c20b0 : decide ((rd t223 x38_2) < (l3.length : Int)) = true := decide_eq_true c20
                      clear c20
                      by_cases c21 : 0 ≤ (rd l3 (rd t223 x38_2))
                      · rw [if_pos c21] at H
                        have c21b0 : decide (0 ≤ (rd l3 (rd t223 x38_2))) = true := decide_eq_true c21
                        clear c21
                        by_cases c22 : (rd l3 (rd t223 x38_2)) < (l2.length : Int)
                        · rw [if_pos c22] at H
                          have c22b0 : decide ((rd l3 (rd t223 x38_2)) < (l2.length : Int)) = true := decide_eq_true c22
                          clear c22
                          by_cases c23 : 0 ≤ ((rd_T32 l2 (rd l3 (rd t223 x38_2))).f2)
                          · rw [if_pos c23] at H
                            have c23b0 : decide (0 ≤ ((rd_T32 l2 (rd l3 (rd t223 x38_2))).f2)) = true := decide_eq_true c23
                            clear c23
                            by_cases c24 : ((rd_T32 l2 (rd l3 (rd t223 x38_2))).f2) < (((rd_T32 l2 (rd l3 (rd t223 x38_2))).f5).length : Int)
                            · rw [if_pos c24] at H
                              have c24b0 : decide (((rd_T32 l2 (rd l3 (rd t223 x38_2))).f2) < (((rd_T32 l2 (rd l3 (rd t223 x38_2))).f5).length : Int)) = true := decide_eq_true c24
                              clear c24
                              have H' := Aside0.mk H
                              clear H
                              have p228 : 0 ≤ (x38_2 : Int) := of_decide_eq_true (by first | (with_reducible assumption) | assumption)
                              have q228 : x38_2 < (t223.length : Int) := of_decide_eq_true (by first | (with_reducible assumption) | assumption)
                              obtain ⟨ad228, e228, hx228_0⟩ := Kd.at_int (Kd.R_reads' HO_36.out).2.2 x38_2 p228 q228
                              cases e228
                              replace p228 := eq_true p228
                              replace q228 := eq_true q228
                              have p229 : 0 ≤ ((rd t223 x38_2) : Int) := of_decide_eq_true (by first | (with_reducible assumption) | assumption)
                              have q229 : (rd t223 x38_2) < (l3.length : Int) := of_decide_eq_true (by first | (with_reducible assumption) | assumption)
                              obtain ⟨ad229, e229, hx229_0⟩ := Kd.at_int HR3.out (rd t223 x38_2) p229 q229
                              cases e229
                              replace hx229_0 := (HB.out.cell (World.block_lt_of_cell? w _ hx229_0)).trans hx229_0
                              replace p229 := eq_true p229
                              replace q229 := eq_true q229
                              have p230 : 0 ≤ ((rd l3 (rd t223 x38_2)) : Int) := of_decide_eq_true (by first | (with_reducible assumption) | assumption)
                              have q230 : (rd l3 (rd t223 x38_2)) < (l2.length : Int) := of_decide_eq_true (by first | (with_reducible assumption) | assumption)
                              obtain ⟨ad230, A230_5, c230_5, A230_6, c230_6, A230_7, c230_7, e230, hx230_0, hx230_1, hx230_2, hx230_3, hx230_4, hx230_5, hx230_6, hx230_7, hx230_8, hx230_9, hx230_10, hl230_5, hi230_5, hl230_6, hi230_6, hl230_7, hi230_7⟩ := at_T32 HR2.out (rd l3 (rd t223 x38_2)) p230 q230
                              cases e230
                              replace hx230_0 := (HB.out.cell (World.block_lt_of_cell? w _ hx230_0)).trans hx230_0
                              replace hx230_1 := (HB.out.cell (World.block_lt_of_cell? w _ hx230_1)).trans hx230_1
                              replace hx230_2 := (HB.out.cell (World.block_lt_of_cell? w _ hx230_2)).trans hx230_2
                              replace hx230_3 := (HB.out.cell (World.block_lt_of_cell? w _ hx230_3)).trans hx230_3
                              replace hx230_4 := (HB.out.cell (World.block_lt_of_cell? w _ hx230_4)).trans hx230_4
                              replace hx230_5 := (HB.out.cell (World.block_lt_of_cell? w _ hx230_5)).trans hx230_5
                              replace hx230_6 := (HB.out.cell (World.block_lt_of_cell? w _ hx230_6)).trans hx230_6
                              replace hx230_7 := (HB.out.cell (World.block_lt_of_cell? w _ hx230_7)).trans hx230_7
                              replace hx230_8 := (HB.out.cell (World.block_lt_of_cell? w _ hx230_8)).trans hx230_8
                              replace hx230_9 := (HB.out.cell (World.block_lt_of_cell? w _ hx230_9)).trans hx230_9
                              replace hx230_10 := (HB.out.cell (World.block_lt_of_cell? w _ hx230_10)).trans hx230_10
                              have HR230_5 := Aside0.mk hi230_5
                              have HC230_5 := Aside0.mk hl230_5
                              clear hi230_5 hl230_5
                              have HR230_6 := Aside0.mk hi230_6
                              have HC230_6 := Aside0.mk hl230_6
                              clear hi230_6 hl230_6
                              have HR230_7 := Aside0.mk hi230_7
                              have HC230_7 := Aside0.mk hl230_7
                              clear hi230_7 hl230_7
                              replace p230 := eq_true p230
                              replace q230 := eq_true q230
                              go_wp2_with (first | ((with_reducible refine gate_dst (N := 14) rfl ?_); refine box_event ?hg (N := 14) ?hd (cs := #[.string (⟨#[]⟩ : ByteArray), .bool false, .int .i64 0, .int .u64 0, .int .i64 0, .slice none 0 0, .slice none 0 0, .slice none 0 0, .int .i64 0, .int .i64 0, .int .i64 0]) (t := 32) ?hr ?_; (case hd => rfl); (case hg => rfl); (case hr => first | (go_simp; done) | (go_simp; rfl)); intro gb231 hg w25 hbox hb; have n0_ := Aside0.mk (Kd.R_below (by (with_reducible repeat (first | apply Kd.R_alloc | apply Kd.R_drewN | apply Kd.R_drew)); exact HO_36.out) hb); have n1_ := Aside0.mk (blk_below (g := gb219) (o := .cells #[.int .i64 a0_0, .slice A0_1 l0_1.length c0_1, .slice A0_2 l0_2.length c0_2] 24 (0, 0)) (by (with_reducible repeat (first | refine blk_drewN ?_ _ | refine blk_drew ?_ | refine blk_alloc ?_ _)); exact BK219.out) hb); have n2_ := Aside0.mk (below_step (by repeat (first | (with_reducible first | exact HB.out | apply below_alloc | apply pw_below_drewN | apply below_drew1 | refine below_set ?_ GE219.out) | exact HB.out)) hb); have n3_ := Aside0.mk (hbox); have n4_ := Aside0.mk ((by rw [hg]; exact (below_size (by repeat (first | (with_reducible first | exact HB.out | apply below_alloc | apply pw_below_drewN | apply below_drew1 | refine below_set ?_ GE219.out) | exact HB.out))) : w.heap.size ≤ gb231)); have n5_ := Aside0.mk ((by rw [hg]; exact (below_size (by repeat (first | (with_reducible first | exact HB.out | apply below_alloc | apply pw_below_drewN | apply below_drew1 | refine below_set ?_ GE219.out) | exact HB.out))) : w.heap.size ≤ gb231)); have n6_ := Aside0.mk ((by rw [hg]; exact Nat.ne_of_lt (blk_lt (g := gb219) (o := .cells #[.int .i64 a0_0, .slice A0_1 l0_1.length c0_1, .slice A0_2 l0_2.length c0_2] 24 (0, 0)) (by (with_reducible repeat (first | refine blk_drewN ?_ _ | refine blk_drew ?_ | refine blk_alloc ?_ _)); exact BK219.out)) : gb219 ≠ gb231)); have n7_ := Aside0.mk ((by rw [hg]; exact Nat.ne_of_gt (blk_lt (g := gb219) (o := .cells #[.int .i64 a0_0, .slice A0_1 l0_1.length c0_1, .slice A0_2 l0_2.length c0_2] 24 (0, 0)) (by (with_reducible repeat (first | refine blk_drewN ?_ _ | refine blk_drew ?_ | refine blk_alloc ?_ _)); exact BK219.out)) : gb231 ≠ gb219)); clear HO_36; clear BK219; clear HB; have HO_36 := n0_; have BK219 := n1_; have HB := n2_; have BK231 := n3_; have GW231 := n4_; have GE231 := n5_; have NB219_231 := n6_; have NB231_219 := n7_; clear n0_ n1_ n2_ n3_ n4_ n5_ n6_ n7_; clear hb hbox hg; have hnb26 := NB231_219.out; have hnc26 := NB219_231.out; have hcz27_0 : w25.cell? ⟨gb231, 0, none⟩ = some (.string (⟨#[]⟩ : ByteArray)) := (blk_cell BK231.out 0).trans rfl; have hcz27_1 : w25.cell? ⟨gb231, 1, none⟩ = some (.bool false) := (blk_cell BK231.out 1).trans rfl; have hcz27_2 : w25.cell? ⟨gb231, 2, none⟩ = some (.int .i64 0) := (blk_cell BK231.out 2).trans rfl; have hcz27_3 : w25.cell? ⟨gb231, 3, none⟩ = some (.int .u64 0) := (blk_cell BK231.out 3).trans rfl; have hcz27_4 : w25.cell? ⟨gb231, 4, none⟩ = some (.int .i64 0) := (blk_cell BK231.out 4).trans rfl; have hcz27_5 : w25.cell? ⟨gb231, 5, none⟩ = some (.slice none 0 0) := (blk_cell BK231.out 5).trans rfl; have hcz27_6 : w25.cell? ⟨gb231, 6, none⟩ = some (.slice none 0 0) := (blk_cell BK231.out 6).trans rfl; have hcz27_7 : w25.cell? ⟨gb231, 7, none⟩ = some (.slice none 0 0) := (blk_cell BK231.out 7).trans rfl; have hcz27_8 : w25.cell? ⟨gb231, 8, none⟩ = some (.int .i64 0) := (blk_cell BK231.out 8).trans rfl; have hcz27_9 : w25.cell? ⟨gb231, 9, none⟩ = some (.int .i64 0) := (blk_cell BK231.out 9).trans rfl; have hcz27_10 : w25.cell? ⟨gb231, 10, none⟩ = some (.int .i64 0) := (blk_cell BK231.out 10).trans rfl; have hfz27_0 := blk_frozen BK231.out 0; have hfz27_1 := blk_frozen BK231.out 1; have hfz27_2 := blk_frozen BK231.out 2; have hfz27_3 := blk_frozen BK231.out 3; have hfz27_4 := blk_frozen BK231.out 4; have hfz27_5 := blk_frozen BK231.out 5; have hfz27_6 := blk_frozen BK231.out 6; have hfz27_7 := blk_frozen BK231.out 7; have hfz27_8 := blk_frozen BK231.out 8; have hfz27_9 := blk_frozen BK231.out 9; have hfz27_10 := blk_frozen BK231.out 10; have p232 : 0 ≤ (((rd_T32 l2 (rd l3 (rd t223 x38_2))).f2) : Int) := of_decide_eq_true (by first | (with_reducible assumption) | assumption); have q232 : ((rd_T32 l2 (rd l3 (rd t223 x38_2))).f2) < (((rd_T32 l2 (rd l3 (rd t223 x38_2))).f5).length : Int) := of_decide_eq_true (by first | (with_reducible assumption) | assumption); obtain ⟨ad232, e232, hx232_0⟩ := Kd.at_int HR230_5.out ((rd_T32 l2 (rd l3 (rd t223 x38_2))).f2) p232 q232; cases e232; have hn232_0 : ad232.block ≠ gb231 := Nat.ne_of_lt (Nat.lt_of_lt_of_le (by have := World.block_lt_of_cell? _ _ hx232_0; first | rwa [add_block] at this | exact this) GW231.out); have hn232_1 : ad232.block ≠ gb231 := Nat.ne_of_lt (Nat.lt_of_lt_of_le (by have := World.block_lt_of_cell? _ _ hx232_0; first | rwa [add_block] at this | exact this) GW231.out); have hn232_2 : ad232.block ≠ gb231 := Nat.ne_of_lt (Nat.lt_of_lt_of_le (by have := World.block_lt_of_cell? _ _ hx232_0; first | rwa [add_block] at this | exact this) GW231.out); have hn232_3 : ad232.block ≠ gb231 := Nat.ne_of_lt (Nat.lt_of_lt_of_le (by have := World.block_lt_of_cell? _ _ hx232_0; first | rwa [add_block] at this | exact this) GW231.out); have hn232_4 : ad232.block ≠ gb231 := Nat.ne_of_lt (Nat.lt_of_lt_of_le (by have := World.block_lt_of_cell? _ _ hx232_0; first | rwa [add_block] at this | exact this) GW231.out); have hn232_5 : ad232.block ≠ gb231 := Nat.ne_of_lt (Nat.lt_of_lt_of_le (by have := World.block_lt_of_cell? _ _ hx232_0; first | rwa [add_block] at this | exact this) GW231.out); have hn232_6 : ad232.block ≠ gb231 := Nat.ne_of_lt (Nat.lt_of_lt_of_le (by have := World.block_lt_of_cell? _ _ hx232_0; first | rwa [add_block] at this | exact this) GW231.out); have hn232_7 : ad232.block ≠ gb231 := Nat.ne_of_lt (Nat.lt_of_lt_of_le (by have := World.block_lt_of_cell? _ _ hx232_0; first | rwa [add_block] at this | exact this) GW231.out); have hn232_8 : ad232.block ≠ gb231 := Nat.ne_of_lt (Nat.lt_of_lt_of_le (by have := World.block_lt_of_cell? _ _ hx232_0; first | rwa [add_block] at this | exact this) GW231.out); have hn232_9 : ad232.block ≠ gb231 := Nat.ne_of_lt (Nat.lt_of_lt_of_le (by have := World.block_lt_of_cell? _ _ hx232_0; first | rwa [add_block] at this | exact this) GW231.out); have hn232_10 : ad232.block ≠ gb231 := Nat.ne_of_lt (Nat.lt_of_lt_of_le (by have := World.block_lt_of_cell? _ _ hx232_0; first | rwa [add_block] at this | exact this) GW231.out); replace hx232_0 := (HB.out.cell (World.block_lt_of_cell? w _ hx232_0)).trans hx232_0; replace hx232_0 := (cell_far (p := ⟨gb231, 0, none⟩) (by first | (rw [add_block]; exact hn232_0) | (show (Addr.add _ _).block ≠ _; rw [add_block]; exact hn232_0) | exact hn232_0) (.string ((rd_T32 l2 (rd l3 (rd t223 x38_2))).f0))).trans hx232_0; replace hx232_0 := (cell_far (p := ⟨gb231, 1, none⟩) (by first | (rw [add_block]; exact hn232_1) | (show (Addr.add _ _).block ≠ _; rw [add_block]; exact hn232_1) | exact hn232_1) (.bool ((rd_T32 l2 (rd l3 (rd t223 x38_2))).f1))).trans hx232_0; replace hx232_0 := (cell_far (p := ⟨gb231, 2, none⟩) (by first | (rw [add_block]; exact hn232_2) | (show (Addr.add _ _).block ≠ _; rw [add_block]; exact hn232_2) | exact hn232_2) (.int .i64 ((rd_T32 l2 (rd l3 (rd t223 x38_2))).f2))).trans hx232_0; replace hx232_0 := (cell_far (p := ⟨gb231, 3, none⟩) (by first | (rw [add_block]; exact hn232_3) | (show (Addr.add _ _).block ≠ _; rw [add_block]; exact hn232_3) | exact hn232_3) (.int .u64 ((rd_T32 l2 (rd l3 (rd t223 x38_2))).f3))).trans hx232_0; replace hx232_0 := (cell_far (p := ⟨gb231, 4, none⟩) (by first | (rw [add_block]; exact hn232_4) | (show (Addr.add _ _).block ≠ _; rw [add_block]; exact hn232_4) | exact hn232_4) (.int .i64 ((rd_T32 l2 (rd l3 (rd t223 x38_2))).f4))).trans hx232_0; replace hx232_0 := (cell_far (p := ⟨gb231, 5, none⟩) (by first | (rw [add_block]; exact hn232_5) | (show (Addr.add _ _).block ≠ _; rw [add_block]; exact hn232_5) | exact hn232_5) (.slice (some ad232) ((rd_T32 l2 (rd l3 (rd t223 x38_2))).f5).length c230_5)).trans hx232_0; replace hx232_0 := (cell_far (p := ⟨gb231, 6, none⟩) (by first | (rw [add_block]; exact hn232_6) | (show (Addr.add _ _).block ≠ _; rw [add_block]; exact hn232_6) | exact hn232_6) (.slice A230_6 ((rd_T32 l2 (rd l3 (rd t223 x38_2))).f6).length c230_6)).trans hx232_0; replace hx232_0 := (cell_far (p := ⟨gb231, 7, none⟩) (by first | (rw [add_block]; exact hn232_7) | (show (Addr.add _ _).block ≠ _; rw [add_block]; exact hn232_7) | exact hn232_7) (.slice A230_7 ((rd_T32 l2 (rd l3 (rd t223 x38_2))).f7).length c230_7)).trans hx232_0; replace hx232_0 := (cell_far (p := ⟨gb231, 8, none⟩) (by first | (rw [add_block]; exact hn232_8) | (show (Addr.add _ _).block ≠ _; rw [add_block]; exact hn232_8) | exact hn232_8) (.int .i64 ((rd_T32 l2 (rd l3 (rd t223 x38_2))).f8))).trans hx232_0; replace hx232_0 := (cell_far (p := ⟨gb231, 9, none⟩) (by first | (rw [add_block]; exact hn232_9) | (show (Addr.add _ _).block ≠ _; rw [add_block]; exact hn232_9) | exact hn232_9) (.int .i64 ((rd_T32 l2 (rd l3 (rd t223 x38_2))).f9))).trans hx232_0; replace hx232_0 := (cell_far (p := ⟨gb231, 10, none⟩) (by first | (rw [add_block]; exact hn232_10) | (show (Addr.add _ _).block ≠ _; rw [add_block]; exact hn232_10) | exact hn232_10) (.int .i64 ((rd_T32 l2 (rd l3 (rd t223 x38_2))).f10))).trans hx232_0; clear hn232_0; clear hn232_1; clear hn232_2; clear hn232_3; clear hn232_4; clear hn232_5; clear hn232_6; clear hn232_7; clear hn232_8; clear hn232_9; clear hn232_10; replace p232 := eq_true p232; replace q232 := eq_true q232))
                              go_roundg k2
                              case measure => have := HK1.out; have := HK2.out; omega
                              case rel => exact ⟨(wrap64 (x11_2 + (rd ((rd_T32 l2 (rd l3 (rd t223 x38_2))).f5) ((rd_T32 l2 (rd l3 (rd t223 x38_2))).f2)))), (wrap64 (x38_2 + 1)), (by first | rfl | (simp; done) | (simp [*]; done)), (by first | rfl | (simp; done) | (simp [*]; done)), H', ⟨by have := HK1.out; have := HK2.out; omega⟩, ⟨by (with_reducible repeat (first | apply Kd.R_alloc | apply Kd.R_drewN | apply Kd.R_drew)); exact Kd.R_mono (Kd.R_far (p := ⟨gb231, 10, none⟩) (Kd.R_far (p := ⟨gb231, 9, none⟩) (Kd.R_far (p := ⟨gb231, 8, none⟩) (Kd.R_far (p := ⟨gb231, 7, none⟩) (Kd.R_far (p := ⟨gb231, 6, none⟩) (Kd.R_far (p := ⟨gb231, 5, none⟩) (Kd.R_far (p := ⟨gb231, 4, none⟩) (Kd.R_far (p := ⟨gb231, 3, none⟩) (Kd.R_far (p := ⟨gb231, 2, none⟩) (Kd.R_far (p := ⟨gb231, 1, none⟩) (Kd.R_far (p := ⟨gb231, 0, none⟩) (Kd.R_types HO_36.out BK231.out (by decide)) (fun _ hk => hk.2) (.string ((rd_T32 l2 (rd l3 (rd t223 x38_2))).f0))) (fun _ hk => hk.2) (.bool ((rd_T32 l2 (rd l3 (rd t223 x38_2))).f1))) (fun _ hk => hk.2) (.int .i64 ((rd_T32 l2 (rd l3 (rd t223 x38_2))).f2))) (fun _ hk => hk.2) (.int .u64 ((rd_T32 l2 (rd l3 (rd t223 x38_2))).f3))) (fun _ hk => hk.2) (.int .i64 ((rd_T32 l2 (rd l3 (rd t223 x38_2))).f4))) (fun _ hk => hk.2) (.slice (some ad232) ((rd_T32 l2 (rd l3 (rd t223 x38_2))).f5).length c230_5)) (fun _ hk => hk.2) (.slice A230_6 ((rd_T32 l2 (rd l3 (rd t223 x38_2))).f6).length c230_6)) (fun _ hk => hk.2) (.slice A230_7 ((rd_T32 l2 (rd l3 (rd t223 x38_2))).f7).length c230_7)) (fun _ hk => hk.2) (.int .i64 ((rd_T32 l2 (rd l3 (rd t223 x38_2))).f8))) (fun _ hk => hk.2) (.int .i64 ((rd_T32 l2 (rd l3 (rd t223 x38_2))).f9))) (fun _ hk => hk.2) (.int .i64 ((rd_T32 l2 (rd l3 (rd t223 x38_2))).f10))) (fun _ hk => trivial)⟩, ⟨by (with_reducible repeat (first | refine blk_drewN ?_ _ | refine blk_drew ?_ | refine blk_alloc ?_ _)); refine blk_far ?_ NB219_231.out _; (with_reducible repeat (first | refine blk_drewN ?_ _ | refine blk_drew ?_ | refine blk_alloc ?_ _)); refine blk_far ?_ NB219_231.out _; (with_reducible repeat (first | refine blk_drewN ?_ _ | refine blk_drew ?_ | refine blk_alloc ?_ _)); refine blk_far ?_ NB219_231.out _; (with_reducible repeat (first | refine blk_drewN ?_ _ | refine blk_drew ?_ | refine blk_alloc ?_ _)); refine blk_far ?_ NB219_231.out _; (with_reducible repeat (first | refine blk_drewN ?_ _ | refine blk_drew ?_ | refine blk_alloc ?_ _)); refine blk_far ?_ NB219_231.out _; (with_reducible repeat (first | refine blk_drewN ?_ _ | refine blk_drew ?_ | refine blk_alloc ?_ _)); refine blk_far ?_ NB219_231.out _; (with_reducible repeat (first | refine blk_drewN ?_ _ | refine blk_drew ?_ | refine blk_alloc ?_ _)); refine blk_far ?_ NB219_231.out _; (with_reducible repeat (first | refine blk_drewN ?_ _ | refine blk_drew ?_ | refine blk_alloc ?_ _)); refine blk_far ?_ NB219_231.out _; (with_reducible repeat (first | refine blk_drewN ?_ _ | refine blk_drew ?_ | refine blk_alloc ?_ _)); refine blk_far ?_ NB219_231.out _; (with_reducible repeat (first | refine blk_drewN ?_ _ | refine blk_drew ?_ | refine blk_alloc ?_ _)); refine blk_far ?_ NB219_231.out _; (with_reducible repeat (first | refine blk_drewN ?_ _ | refine blk_drew ?_ | refine blk_alloc ?_ _)); refine blk_far ?_ NB219_231.out _; (with_reducible repeat (first | refine blk_drewN ?_ _ | refine blk_drew ?_ | refine blk_alloc ?_ _)); exact BK219.out⟩, ⟨by repeat (first | (with_reducible first | exact HB.out | apply below_alloc | apply pw_below_drewN | apply below_drew1 | refine below_set ?_ GE219.out | refine below_set ?_ GE231.out) | exact HB.out)⟩⟩
                            · rw [if_neg c24] at H
                              exact absurd H (by simp)
                          · rw [if_neg c23] at H
                            exact absurd H (by simp)
                        · rw [if_neg c22] at H
                          exact absurd H (by simp)
                      · rw [if_neg c21] at H
                        exact absurd H (by simp)
                    · rw [if_neg c20] at H
                      exact absurd H (by simp)
                  · rw [if_neg c19] at H
                    exact absurd H (by simp)
                · rw [if_neg c18] at H
                  exact absurd H (by simp)
              · rw [if_neg c17] at H
                exact absurd H (by simp)
            · rw [if_neg c16] at H
              have c16b0 : decide (x38_2 < (t223.length : Int)) = false := decide_eq_false c16
              clear c16
              obtain rfl := Option.some.inj H
              go_wp2
              go_ret
              exact ⟨by first | rfl | (simp [errW_none, errW_some] <;> rfl) | (simp [*, errW_none, errW_some] <;> rfl), by repeat (first | (with_reducible first | exact HB.out | apply below_alloc | apply pw_below_drewN | apply below_drew1 | refine below_set ?_ GE219.out) | exact HB.out)⟩

end Go.Proofs.Ytagpbgabcenodaa.PB
