-- PRINTED by print.py (a twelfth state) out of the translation. Not trusted: Lean checks it.
import Derived.Test.YtagpbgabcenodaaPBx0
namespace Go.Proofs.Ytagpbgabcenodaa.PB
open Go.RowKit Go.Proofs.YtagpbgabcenodaaW.PrintWords Go.Proofs.YtagpbgabcenodaaW.PrintLast Go.Proofs.YtagpbgabcenodaaW.PrintMore
attribute [local go_sem] max2_int min2_int max_two min_two max_three min_three max_four min_four   -- for this text's walks alone
set_option linter.unusedVariables false
set_option linter.unusedSimpArgs false

/-! ### maskref4_LoadOf: function 22 -/
mutual
def maskref4_LoadOf.l0 : Nat → Int → List (S32) → List Int → Int → List Int → Int → Int → Int → List Int → List Int → Option (Int)
  | 0, _, _, _, _, _, _, _, _, _, _ => none
  | k + 1, x1, x2, x3, x9, x16, x17, x18, x262000, x262001, x262002 => if x18 < x17 then (if 0 ≤ x18 then (if x18 < (x16.length : Int) then (if (rd x16 x18) = x1 then (if 0 ≤ x262000 then (if x262000 < (x2.length : Int) then (if 0 < (((rd_T32 x2 x262000).f5).length : Int) then (maskref4_LoadOf.l0 k x1 x2 x3 (wrap64 (x9 + (rd ((rd_T32 x2 x262000).f5) 0))) x16 x17 (wrap64 (x18 + 1)) x262000 x262001 x262002) else (none)) else (none)) else (none)) else (maskref4_LoadOf.l0 k x1 x2 x3 x9 x16 x17 (wrap64 (x18 + 1)) x262000 x262001 x262002)) else (none)) else (none)) else (maskref4_LoadOf.l1 k x1 x2 x3 x9 x262002 (x262002.length : Int) 0)
def maskref4_LoadOf.l1 : Nat → Int → List (S32) → List Int → Int → List Int → Int → Int → Option (Int)
  | 0, _, _, _, _, _, _, _ => none
  | k + 1, x1, x2, x3, x9, x37, x38, x39 => if x39 < x38 then (if 0 ≤ x39 then (if x39 < (x37.length : Int) then (if (rd x37 x39) = x1 then (if x39 < (x3.length : Int) then (if 0 ≤ (rd x3 x39) then (if (rd x3 x39) < (x2.length : Int) then (if 0 ≤ (wrap64 ((((rd_T32 x2 (rd x3 x39)).f5).length : Int) - 1)) then (if (wrap64 ((((rd_T32 x2 (rd x3 x39)).f5).length : Int) - 1)) < (((rd_T32 x2 (rd x3 x39)).f5).length : Int) then (maskref4_LoadOf.l1 k x1 x2 x3 (wrap64 (x9 + (rd ((rd_T32 x2 (rd x3 x39)).f5) (wrap64 ((((rd_T32 x2 (rd x3 x39)).f5).length : Int) - 1))))) x37 x38 (wrap64 (x39 + 1))) else (none)) else (none)) else (none)) else (none)) else (none)) else (maskref4_LoadOf.l1 k x1 x2 x3 x9 x37 x38 (wrap64 (x39 + 1)))) else (none)) else (none)) else (some x9)
end
def maskref4_LoadOf.f (k : Nat) (a0_0 : Int) (l0_1 : List Int) (l0_2 : List Int) (a1 : Int) (l2 : List (S32)) (l3 : List Int) : Option (Int) := maskref4_LoadOf.l0 k a1 l2 l3 0 l0_1 (l0_1.length : Int) 0 a0_0 l0_1 l0_2
theorem maskref4_LoadOf.mono_l : ∀ k, (∀ y0 y1 y2 y3 y4 y5 y6 y7 y8 y9, LeO (maskref4_LoadOf.l0 k y0 y1 y2 y3 y4 y5 y6 y7 y8 y9) (maskref4_LoadOf.l0 (k + 1) y0 y1 y2 y3 y4 y5 y6 y7 y8 y9)) ∧ (∀ y0 y1 y2 y3 y4 y5 y6, LeO (maskref4_LoadOf.l1 k y0 y1 y2 y3 y4 y5 y6) (maskref4_LoadOf.l1 (k + 1) y0 y1 y2 y3 y4 y5 y6))
  | 0 => ⟨fun _ _ _ _ _ _ _ _ _ _ r h => by simp [maskref4_LoadOf.l0] at h, fun _ _ _ _ _ _ _ r h => by simp [maskref4_LoadOf.l1] at h⟩
  | k + 1 => by
    obtain ⟨ih0, ih1⟩ := maskref4_LoadOf.mono_l k
    refine ⟨?_, ?_⟩
    · intro y0 y1 y2 y3 y4 y5 y6 y7 y8 y9
      unfold maskref4_LoadOf.l0
      repeat' first
      | (with_reducible exact ih0 _ _ _ _ _ _ _ _ _ _)
      | (with_reducible exact ih1 _ _ _ _ _ _ _)
      | (with_reducible exact LeO.refl _)
      | (with_reducible exact LeO.none _)
      | (with_reducible refine LeO.ite ?_ ?_)
      | (with_reducible refine LeO.bind ?_ (fun _ => ?_))
      | exact ih0 _ _ _ _ _ _ _ _ _ _
      | exact ih1 _ _ _ _ _ _ _
      | exact LeO.none _
      | refine LeO.ite ?_ ?_
      | refine LeO.bind ?_ (fun _ => ?_)
    · intro y0 y1 y2 y3 y4 y5 y6
      unfold maskref4_LoadOf.l1
      repeat' first
      | (with_reducible exact ih0 _ _ _ _ _ _ _ _ _ _)
      | (with_reducible exact ih1 _ _ _ _ _ _ _)
      | (with_reducible exact LeO.refl _)
      | (with_reducible exact LeO.none _)
      | (with_reducible refine LeO.ite ?_ ?_)
      | (with_reducible refine LeO.bind ?_ (fun _ => ?_))
      | exact ih0 _ _ _ _ _ _ _ _ _ _
      | exact ih1 _ _ _ _ _ _ _
      | exact LeO.none _
      | refine LeO.ite ?_ ?_
      | refine LeO.bind ?_ (fun _ => ?_)
theorem maskref4_LoadOf.mono : ∀ a0 a1 a2 a3 a4 a5 k, LeO (maskref4_LoadOf.f k a0 a1 a2 a3 a4 a5) (maskref4_LoadOf.f (k + 1) a0 a1 a2 a3 a4 a5) := by
  intro a0 a1 a2 a3 a4 a5 k
  obtain ⟨ih0, ih1⟩ := maskref4_LoadOf.mono_l k
  unfold maskref4_LoadOf.f
  repeat' first
      | (with_reducible exact ih0 _ _ _ _ _ _ _ _ _ _)
      | (with_reducible exact ih1 _ _ _ _ _ _ _)
      | (with_reducible exact LeO.refl _)
      | (with_reducible exact LeO.none _)
      | (with_reducible refine LeO.ite ?_ ?_)
      | (with_reducible refine LeO.bind ?_ (fun _ => ?_))
      | exact ih0 _ _ _ _ _ _ _ _ _ _
      | exact ih1 _ _ _ _ _ _ _
      | exact LeO.none _
      | refine LeO.ite ?_ ?_
      | refine LeO.bind ?_ (fun _ => ?_)
set_option maxHeartbeats 8000000 in
set_option maxRecDepth 100000 in
theorem maskref4_LoadOf.calls (k : Nat) (a0_0 : Int) (A0_1 : Option Addr) (c0_1 : Nat) (l0_1 : List Int) (A0_2 : Option Addr) (c0_2 : Nat) (l0_2 : List Int) (a1 : Int) (A2 : Option Addr) (c2 : Nat) (l2 : List (S32)) (A3 : Option Addr) (c3 : Nat) (l3 : List Int) (r : Int) (w : World) (hr0_1 : Kd.C (Kd.int .i64) w A0_1 l0_1.length l0_1) (hc0_1 : l0_1.length ≤ c0_1) (hr0_2 : Kd.C (Kd.int .i64) w A0_2 l0_2.length l0_2) (hc0_2 : l0_2.length ≤ c0_2) (hr2 : Kd.C k32 w A2 l2.length l2) (hc2 : l2.length ≤ c2) (hr3 : Kd.C (Kd.int .i64) w A3 l3.length l3) (hc3 : l3.length ≤ c3) (h : maskref4_LoadOf.f k a0_0 l0_1 l0_2 a1 l2 l3 = some r) :
    Calls Try.prog 22 #[.agg #[.int .i64 a0_0, .slice A0_1 l0_1.length c0_1, .slice A0_2 l0_2.length c0_2], .int .i64 a1, .slice A2 l2.length c2, .slice A3 l3.length c3] w fun e w' => e = .returned (.int .i64 r) ∧ Below w.heap.size w w' := by
  have hu24 := Try.underlying24
  have HR0_1 := Aside0.mk hr0_1
  have HC0_1 := Aside0.mk hc0_1
  clear hr0_1 hc0_1
  have HR0_2 := Aside0.mk hr0_2
  have HC0_2 := Aside0.mk hc0_2
  clear hr0_2 hc0_2
  have HR2 := Aside0.mk hr2
  have HC2 := Aside0.mk hc2
  clear hr2 hc2
  have HR3 := Aside0.mk hr3
  have HC3 := Aside0.mk hc3
  clear hr3 hc3
  have HB := Aside0.mk (Below.refl w.heap.size w)
  have H : (maskref4_LoadOf.l0 k a1 l2 l3 0 l0_1 (l0_1.length : Int) 0 a0_0 l0_1 l0_2) = some r := h
  clear h
  have H' := Aside0.mk H
  clear H
  go_enter Try.func22, Try.ntmps22
  go_wp2_with (first | ((with_reducible refine gate_dst (N := 4) rfl ?_); refine box_event ?hg (N := 4) ?hd (cs := #[.int .i64 a0_0, .slice A0_1 l0_1.length c0_1, .slice A0_2 l0_2.length c0_2]) (t := 24) ?hr ?_; (case hd => rfl); (case hg => rfl); (case hr => first | (go_simp; done) | (go_simp; rfl)); intro gb261 hg w5 hbox hb; have n0_ := Aside0.mk (below_step (by repeat (first | (with_reducible first | exact HB.out | apply below_alloc | apply pw_below_drewN | apply below_drew1) | exact HB.out)) hb); have n1_ := Aside0.mk (hbox); have n2_ := Aside0.mk ((by rw [hg]; exact (below_size (by repeat (first | (with_reducible first | exact HB.out | apply below_alloc | apply pw_below_drewN | apply below_drew1) | exact HB.out))) : w.heap.size ≤ gb261)); have n3_ := Aside0.mk ((by rw [hg]; exact (below_size (by repeat (first | (with_reducible first | exact HB.out | apply below_alloc | apply pw_below_drewN | apply below_drew1) | exact HB.out))) : w.heap.size ≤ gb261)); clear HB; have HB := n0_; have BK261 := n1_; have GW261 := n2_; have GE261 := n3_; clear n0_ n1_ n2_ n3_; clear hb hbox hg; have hcz6_0 : w5.cell? ⟨gb261, 0, none⟩ = some (.int .i64 a0_0) := (blk_cell BK261.out 0).trans rfl; have hcz6_1 : w5.cell? ⟨gb261, 1, none⟩ = some (.slice A0_1 l0_1.length c0_1) := (blk_cell BK261.out 1).trans rfl; have hcz6_2 : w5.cell? ⟨gb261, 2, none⟩ = some (.slice A0_2 l0_2.length c0_2) := (blk_cell BK261.out 2).trans rfl; have hfz6_0 := blk_frozen BK261.out 0; have hfz6_1 := blk_frozen BK261.out 1; have hfz6_2 := blk_frozen BK261.out 2))
  go_loopg [9, 18] k (fun kq v9 v18 w' => ∃ (x9_1 : Int) (x18_1 : Int), v9 = .int .i64 x9_1 ∧ v18 = .int .i64 x18_1 ∧ Aside0 (maskref4_LoadOf.l0 kq a1 l2 l3 x9_1 l0_1 (l0_1.length : Int) x18_1 a0_0 l0_1 l0_2 = some r) ∧ Aside0 (kq ≤ k) ∧ Aside0 (w'.heap[gb261]? = some (.cells #[.int .i64 a0_0, (.slice A0_1 l0_1.length c0_1), (.slice A0_2 l0_2.length c0_2)] 24 (0, 0))) ∧ Aside0 (Below w.heap.size w w'))
  case atStart => exact ⟨(0), (0), (by first | rfl | (simp; done) | (simp [*]; done)), (by first | rfl | (simp; done) | (simp [*]; done)), H', ⟨Nat.le_refl _⟩, ⟨by (with_reducible repeat (first | refine blk_drewN ?_ _ | refine blk_drew ?_ | refine blk_alloc ?_ _)); exact BK261.out⟩, ⟨by repeat (first | (with_reducible first | exact HB.out | apply below_alloc | apply pw_below_drewN | apply below_drew1 | refine below_set ?_ GE261.out) | exact HB.out)⟩⟩
  case round =>
    clear H'
    try clear c2
    try clear p2
    try clear c3
    try clear hcz6_0
    try clear hcz6_1
    try clear hcz6_2
    try clear hfz6_0
    try clear hfz6_1
    try clear hfz6_2
    obtain ⟨x9_1, x18_1, rfl, rfl, HA, HK1, BK261, HB⟩ := hrel
    cases gk with
    | zero => exact absurd HA.out (by simp [maskref4_LoadOf.l0])
    | succ k1 =>
      have H := HA.out
      clear HA
      simp only [maskref4_LoadOf.l0] at H
      by_cases c7 : x18_1 < (l0_1.length : Int)
      · rw [if_pos c7] at H
        have c7b0 : decide (x18_1 < (l0_1.length : Int)) = true := decide_eq_true c7
        clear c7
        by_cases c8 : 0 ≤ x18_1
        · rw [if_pos c8] at H
          have c8b0 : decide (0 ≤ x18_1) = true := decide_eq_true c8
          clear c8
          by_cases c9 : x18_1 < (l0_1.length : Int)
          · rw [if_pos c9] at H
            have c9b0 : decide (x18_1 < (l0_1.length : Int)) = true := decide_eq_true c9
            clear c9
            by_cases c10 : (rd l0_1 x18_1) = a1
            · rw [if_pos c10] at H
              have c10b0 : ((rd l0_1 x18_1) == a1) = true := beq_iff_eq.mpr c10
              have c10b1 : ((rd l0_1 x18_1) != a1) = false := bne_eq_false_iff_eq.mpr c10
              clear c10
              by_cases c11 : 0 ≤ a0_0
              · rw [if_pos c11] at H
                have c11b0 : decide (0 ≤ a0_0) = true := decide_eq_true c11
                clear c11
                by_cases c12 : a0_0 < (l2.length : Int)
                · rw [if_pos c12] at H
                  have c12b0 : decide (a0_0 < (l2.length : Int)) = true := decide_eq_true c12
                  clear c12
                  by_cases c13 : 0 < (((rd_T32 l2 a0_0).f5).length : Int)
                  · rw [if_pos c13] at H
                    have c13b0 : decide (0 < (((rd_T32 l2 a0_0).f5).length : Int)) = true := decide_eq_true c13
                    have c13b1 : decide (0 < ((rd_T32 l2 a0_0).f5).length) = true := decide_eq_true (by omega)
                    clear c13
                    have H' := Aside0.mk H
                    clear H
                    have p262 : 0 ≤ (x18_1 : Int) := of_decide_eq_true (by first | (with_reducible assumption) | assumption)
                    have q262 : x18_1 < (l0_1.length : Int) := of_decide_eq_true (by first | (with_reducible assumption) | assumption)
                    obtain ⟨ad262, e262, hx262_0⟩ := Kd.at_int HR0_1.out x18_1 p262 q262
                    cases e262
                    replace hx262_0 := (HB.out.cell (World.block_lt_of_cell? w _ hx262_0)).trans hx262_0
                    replace p262 := eq_true p262
                    replace q262 := eq_true q262
                    have hcz14_0 : wr.cell? ⟨gb261, 0, none⟩ = some (.int .i64 a0_0) := (blk_cell BK261.out 0).trans rfl
                    have hcz14_1 : wr.cell? ⟨gb261, 1, none⟩ = some (.slice (some ad262) l0_1.length c0_1) := (blk_cell BK261.out 1).trans rfl
                    have hcz14_2 : wr.cell? ⟨gb261, 2, none⟩ = some (.slice A0_2 l0_2.length c0_2) := (blk_cell BK261.out 2).trans rfl
                    have hfz14_0 := blk_frozen BK261.out 0
                    have hfz14_1 := blk_frozen BK261.out 1
                    have hfz14_2 := blk_frozen BK261.out 2
                    have p263 : 0 ≤ (a0_0 : Int) := of_decide_eq_true (by first | (with_reducible assumption) | assumption)
                    have q263 : a0_0 < (l2.length : Int) := of_decide_eq_true (by first | (with_reducible assumption) | assumption)
                    obtain ⟨ad263, A263_5, c263_5, A263_6, c263_6, A263_7, c263_7, e263, hx263_0, hx263_1, hx263_2, hx263_3, hx263_4, hx263_5, hx263_6, hx263_7, hx263_8, hx263_9, hx263_10, hl263_5, hi263_5, hl263_6, hi263_6, hl263_7, hi263_7⟩ := at_T32 HR2.out a0_0 p263 q263
                    cases e263
                    replace hx263_0 := (HB.out.cell (World.block_lt_of_cell? w _ hx263_0)).trans hx263_0
                    replace hx263_1 := (HB.out.cell (World.block_lt_of_cell? w _ hx263_1)).trans hx263_1
                    replace hx263_2 := (HB.out.cell (World.block_lt_of_cell? w _ hx263_2)).trans hx263_2
                    replace hx263_3 := (HB.out.cell (World.block_lt_of_cell? w _ hx263_3)).trans hx263_3
                    replace hx263_4 := (HB.out.cell (World.block_lt_of_cell? w _ hx263_4)).trans hx263_4
                    replace hx263_5 := (HB.out.cell (World.block_lt_of_cell? w _ hx263_5)).trans hx263_5
                    replace hx263_6 := (HB.out.cell (World.block_lt_of_cell? w _ hx263_6)).trans hx263_6
                    replace hx263_7 := (HB.out.cell (World.block_lt_of_cell? w _ hx263_7)).trans hx263_7
                    replace hx263_8 := (HB.out.cell (World.block_lt_of_cell? w _ hx263_8)).trans hx263_8
                    replace hx263_9 := (HB.out.cell (World.block_lt_of_cell? w _ hx263_9)).trans hx263_9
                    replace hx263_10 := (HB.out.cell (World.block_lt_of_cell? w _ hx263_10)).trans hx263_10
                    have HR263_5 := Aside0.mk hi263_5
                    have HC263_5 := Aside0.mk hl263_5
                    clear hi263_5 hl263_5
                    have HR263_6 := Aside0.mk hi263_6
                    have HC263_6 := Aside0.mk hl263_6
                    clear hi263_6 hl263_6
                    have HR263_7 := Aside0.mk hi263_7
                    have HC263_7 := Aside0.mk hl263_7
                    clear hi263_7 hl263_7
                    replace p263 := eq_true p263
                    replace q263 := eq_true q263
                    have p264 : 0 ≤ (0 : Int) := (by omega)
                    have q264 : 0 < (((rd_T32 l2 a0_0).f5).length : Int) := of_decide_eq_true (by first | (with_reducible assumption) | assumption)
                    obtain ⟨ad264, e264, hx264_0⟩ := Kd.at_int HR263_5.out 0 p264 q264
                    cases e264
                    have qi264 : (0 < ((rd_T32 l2 a0_0).f5).length) = True := eq_true (by omega)
                    (try rw [show ((0 : Int)).toNat = 0 from rfl] at hx264_0)
                    (try rw [Addr.add_zero'] at hx264_0)
                    replace hx264_0 := (HB.out.cell (World.block_lt_of_cell? w _ hx264_0)).trans hx264_0
                    replace p264 := eq_true p264
                    replace q264 := eq_true q264
                    go_wp2
                    go_roundg k1
                    case measure => have := HK1.out; omega
                    case rel => exact ⟨(wrap64 (x9_1 + (rd ((rd_T32 l2 a0_0).f5) 0))), (wrap64 (x18_1 + 1)), (by first | rfl | (simp; done) | (simp [*]; done)), (by first | rfl | (simp; done) | (simp [*]; done)), H', ⟨by have := HK1.out; omega⟩, ⟨by (with_reducible repeat (first | refine blk_drewN ?_ _ | refine blk_drew ?_ | refine blk_alloc ?_ _)); exact BK261.out⟩, ⟨by repeat (first | (with_reducible first | exact HB.out | apply below_alloc | apply pw_below_drewN | apply below_drew1 | refine below_set ?_ GE261.out) | exact HB.out)⟩⟩
                  · rw [if_neg c13] at H
                    exact absurd H (by simp)
                · rw [if_neg c12] at H
                  exact absurd H (by simp)
              · rw [if_neg c11] at H
                exact absurd H (by simp)
            · rw [if_neg c10] at H
              have c10b0 : ((rd l0_1 x18_1) == a1) = false := beq_eq_false_iff_ne.mpr c10
              have c10b1 : ((rd l0_1 x18_1) != a1) = true := bne_iff_ne.mpr c10
              have H' := Aside0.mk H
              clear H
              have p262 : 0 ≤ (x18_1 : Int) := of_decide_eq_true (by first | (with_reducible assumption) | assumption)
              have q262 : x18_1 < (l0_1.length : Int) := of_decide_eq_true (by first | (with_reducible assumption) | assumption)
              obtain ⟨ad262, e262, hx262_0⟩ := Kd.at_int HR0_1.out x18_1 p262 q262
              cases e262
              replace hx262_0 := (HB.out.cell (World.block_lt_of_cell? w _ hx262_0)).trans hx262_0
              replace p262 := eq_true p262
              replace q262 := eq_true q262
              go_wp2
              go_roundg k1
              case measure => have := HK1.out; omega
              case rel => exact ⟨(x9_1), (wrap64 (x18_1 + 1)), (by first | rfl | (simp; done) | (simp [*]; done)), (by first | rfl | (simp; done) | (simp [*]; done)), H', ⟨by have := HK1.out; omega⟩, ⟨by (with_reducible repeat (first | refine blk_drewN ?_ _ | refine blk_drew ?_ | refine blk_alloc ?_ _)); exact BK261.out⟩, ⟨by repeat (first | (with_reducible first | exact HB.out | apply below_alloc | apply pw_below_drewN | apply below_drew1 | refine below_set ?_ GE261.out) | exact HB.out)⟩⟩
          · rw [if_neg c9] at H
            exact absurd H (by simp)
        · rw [if_neg c8] at H
          exact absurd H (by simp)
      · rw [if_neg c7] at H
        have c7b0 : decide (x18_1 < (l0_1.length : Int)) = false := decide_eq_false c7
        clear c7
        have H' := Aside0.mk H
        clear H
        have hcz15_0 : wr.cell? ⟨gb261, 0, none⟩ = some (.int .i64 a0_0) := (blk_cell BK261.out 0).trans rfl
        have hcz15_1 : wr.cell? ⟨gb261, 1, none⟩ = some (.slice A0_1 l0_1.length c0_1) := (blk_cell BK261.out 1).trans rfl
        have hcz15_2 : wr.cell? ⟨gb261, 2, none⟩ = some (.slice A0_2 l0_2.length c0_2) := (blk_cell BK261.out 2).trans rfl
        have hfz15_0 := blk_frozen BK261.out 0
        have hfz15_1 := blk_frozen BK261.out 1
        have hfz15_2 := blk_frozen BK261.out 2
        go_wp2
        go_loopg [9, 39] k1 (fun kq v9 v39 w' => ∃ (x9_2 : Int) (x39_2 : Int), v9 = .int .i64 x9_2 ∧ v39 = .int .i64 x39_2 ∧ Aside0 (maskref4_LoadOf.l1 kq a1 l2 l3 x9_2 l0_2 (l0_2.length : Int) x39_2 = some r) ∧ Aside0 (kq ≤ k1) ∧ Aside0 (w'.heap[gb261]? = some (.cells #[.int .i64 a0_0, (.slice A0_1 l0_1.length c0_1), (.slice A0_2 l0_2.length c0_2)] 24 (0, 0))) ∧ Aside0 (Below w.heap.size w w'))
        case atStart => exact ⟨(x9_1), (0), (by first | rfl | (simp; done) | (simp [*]; done)), (by first | rfl | (simp; done) | (simp [*]; done)), H', ⟨Nat.le_refl _⟩, ⟨by (with_reducible repeat (first | refine blk_drewN ?_ _ | refine blk_drew ?_ | refine blk_alloc ?_ _)); exact BK261.out⟩, ⟨by repeat (first | (with_reducible first | exact HB.out | apply below_alloc | apply pw_below_drewN | apply below_drew1 | refine below_set ?_ GE261.out) | exact HB.out)⟩⟩
        case round =>
          clear H'
          try clear c1
          try clear c2
          try clear p2
          try clear q2
          try clear hx2
          try clear qi2
          try clear c3
          try clear p6
          try clear c7
          try clear c7b0
          try clear c8
          try clear c8b0
          try clear c9
          try clear c9b0
          try clear c10
          try clear c10b0
          try clear c10b1
          try clear c11
          try clear c11b0
          try clear c12
          try clear c12b0
          try clear c13
          try clear c13b0
          try clear c13b1
          try clear hcz14_0
          try clear hcz14_1
          try clear hcz14_2
          try clear hcz15_0
          try clear hcz15_1
          try clear hcz15_2
          try clear hcz6_0
          try clear hcz6_1
          try clear hcz6_2
          try clear hfz14_0
          try clear hfz14_1
          try clear hfz14_2
          try clear hfz15_0
          try clear hfz15_1
          try clear hfz15_2
          try clear hfz6_0
          try clear hfz6_1
          try clear hfz6_2
          try clear hx262_0
          try clear hx263_0
          try clear hx263_1
          try clear hx263_10
          try clear hx263_2
          try clear hx263_3
          try clear hx263_4
          try clear hx263_5
          try clear hx263_6
          try clear hx263_7
          try clear hx263_8
          try clear hx263_9
          try clear hx264_0
          try clear p2
          try clear p262
          try clear p263
          try clear p264
          try clear q262
          try clear q263
          try clear q264
          obtain ⟨x9_2, x39_2, rfl, rfl, HA, HK2, BK261, HB⟩ := hrel
          cases gk with
          | zero => exact absurd HA.out (by simp [maskref4_LoadOf.l1])
          | succ k2 =>
            have H := HA.out
            clear HA
            simp only [maskref4_LoadOf.l1] at H
            by_cases c16 : x39_2 < (l0_2.length : Int)
            · rw [if_pos c16] at H
              have c16b0 : decide (x39_2 < (l0_2.length : Int)) = true := decide_eq_true c16
              clear c16
              by_cases c17 : 0 ≤ x39_2
              · rw [if_pos c17] at H
                have c17b0 : decide (0 ≤ x39_2) = true := decide_eq_true c17
                clear c17
                by_cases c18 : x39_2 < (l0_2.length : Int)
                · rw [if_pos c18] at H
                  have c18b0 : decide (x39_2 < (l0_2.length : Int)) = true := decide_eq_true c18
                  clear c18
                  by_cases c19 : (rd l0_2 x39_2) = a1
                  · rw [if_pos c19] at H
                    have c19b0 : ((rd l0_2 x39_2) == a1) = true := beq_iff_eq.mpr c19
                    have c19b1 : ((rd l0_2 x39_2) != a1) = false := bne_eq_false_iff_eq.mpr c19
                    clear c19
                    by_cases c20 : x39_2 < (l3.length : Int)
                    · rw [if_pos c20] at H
                      have c20b0 : decide (x39_2 < (l3.length : Int)) = true := decide_eq_true c20
                      clear c20
                      by_cases c21 : 0 ≤ (rd l3 x39_2)
                      · rw [if_pos c21] at H
                        have c21b0 : decide (0 ≤ (rd l3 x39_2)) = true := decide_eq_true c21
                        clear c21
                        by_cases c22 : (rd l3 x39_2) < (l2.length : Int)
                        · rw [if_pos c22] at H
                          have c22b0 : decide ((rd l3 x39_2) < (l2.length : Int)) = true := decide_eq_true c22
                          clear c22
                          obtain ⟨ji23, hji23⟩ : ∃ j_ : Int, (wrap64 ((((rd_T32 l2 (rd l3 x39_2)).f5).length : Int) - 1)) = j_ := ⟨_, rfl⟩
                          replace H : (if 0 ≤ (ji23) then (if (ji23) < (((rd_T32 l2 (rd l3 x39_2)).f5).length : Int) then (maskref4_LoadOf.l1 k2 a1 l2 l3 (wrap64 (x9_2 + (rd ((rd_T32 l2 (rd l3 x39_2)).f5) (ji23)))) l0_2 (l0_2.length : Int) (wrap64 (x39_2 + 1))) else (none)) else (none)) = some r := by first | (rw [hji23] at H; exact H) | (simp only [hji23] at H ⊢; exact H)
                          have hji23w : (IntKind.i64.wrap ((((rd_T32 l2 (rd l3 x39_2)).f5).length : Int) - 1)) = ji23 := (i64_w _).trans hji23
                          by_cases c24 : 0 ≤ (ji23)
                          · rw [if_pos c24] at H
                            have c24b0 : decide (0 ≤ (ji23)) = true := decide_eq_true c24
                            clear c24
                            by_cases c25 : (ji23) < (((rd_T32 l2 (rd l3 x39_2)).f5).length : Int)
                            · rw [if_pos c25] at H
                              have c25b0 : decide ((ji23) < (((rd_T32 l2 (rd l3 x39_2)).f5).length : Int)) = true := decide_eq_true c25
                              clear c25
                              have H' := Aside0.mk H
                              clear H
                              have p265 : 0 ≤ (x39_2 : Int) := of_decide_eq_true (by first | (with_reducible assumption) | assumption)
                              have q265 : x39_2 < (l0_2.length : Int) := of_decide_eq_true (by first | (with_reducible assumption) | assumption)
                              obtain ⟨ad265, e265, hx265_0⟩ := Kd.at_int HR0_2.out x39_2 p265 q265
                              cases e265
                              replace hx265_0 := (HB.out.cell (World.block_lt_of_cell? w _ hx265_0)).trans hx265_0
                              replace p265 := eq_true p265
                              replace q265 := eq_true q265
                              have p266 : 0 ≤ (x39_2 : Int) := of_decide_eq_true (by first | (with_reducible assumption) | assumption)
                              have q266 : x39_2 < (l3.length : Int) := of_decide_eq_true (by first | (with_reducible assumption) | assumption)
                              obtain ⟨ad266, e266, hx266_0⟩ := Kd.at_int HR3.out x39_2 p266 q266
                              cases e266
                              replace hx266_0 := (HB.out.cell (World.block_lt_of_cell? w _ hx266_0)).trans hx266_0
                              replace p266 := eq_true p266
                              replace q266 := eq_true q266
                              have p267 : 0 ≤ ((rd l3 x39_2) : Int) := of_decide_eq_true (by first | (with_reducible assumption) | assumption)
                              have q267 : (rd l3 x39_2) < (l2.length : Int) := of_decide_eq_true (by first | (with_reducible assumption) | assumption)
                              obtain ⟨ad267, A267_5, c267_5, A267_6, c267_6, A267_7, c267_7, e267, hx267_0, hx267_1, hx267_2, hx267_3, hx267_4, hx267_5, hx267_6, hx267_7, hx267_8, hx267_9, hx267_10, hl267_5, hi267_5, hl267_6, hi267_6, hl267_7, hi267_7⟩ := at_T32 HR2.out (rd l3 x39_2) p267 q267
                              cases e267
                              replace hx267_0 := (HB.out.cell (World.block_lt_of_cell? w _ hx267_0)).trans hx267_0
                              replace hx267_1 := (HB.out.cell (World.block_lt_of_cell? w _ hx267_1)).trans hx267_1
                              replace hx267_2 := (HB.out.cell (World.block_lt_of_cell? w _ hx267_2)).trans hx267_2
                              replace hx267_3 := (HB.out.cell (World.block_lt_of_cell? w _ hx267_3)).trans hx267_3
                              replace hx267_4 := (HB.out.cell (World.block_lt_of_cell? w _ hx267_4)).trans hx267_4
                              replace hx267_5 := (HB.out.cell (World.block_lt_of_cell? w _ hx267_5)).trans hx267_5
                              replace hx267_6 := (HB.out.cell (World.block_lt_of_cell? w _ hx267_6)).trans hx267_6
                              replace hx267_7 := (HB.out.cell (World.block_lt_of_cell? w _ hx267_7)).trans hx267_7
                              replace hx267_8 := (HB.out.cell (World.block_lt_of_cell? w _ hx267_8)).trans hx267_8
                              replace hx267_9 := (HB.out.cell (World.block_lt_of_cell? w _ hx267_9)).trans hx267_9
                              replace hx267_10 := (HB.out.cell (World.block_lt_of_cell? w _ hx267_10)).trans hx267_10
                              have HR267_5 := Aside0.mk hi267_5
                              have HC267_5 := Aside0.mk hl267_5
                              clear hi267_5 hl267_5
                              have HR267_6 := Aside0.mk hi267_6
                              have HC267_6 := Aside0.mk hl267_6
                              clear hi267_6 hl267_6
                              have HR267_7 := Aside0.mk hi267_7
                              have HC267_7 := Aside0.mk hl267_7
                              clear hi267_7 hl267_7
                              replace p267 := eq_true p267
                              replace q267 := eq_true q267
                              have p268 : 0 ≤ ((ji23) : Int) := of_decide_eq_true (by first | (with_reducible assumption) | assumption)
                              have q268 : (ji23) < (((rd_T32 l2 (rd l3 x39_2)).f5).length : Int) := of_decide_eq_true (by first | (with_reducible assumption) | assumption)
                              obtain ⟨ad268, e268, hx268_0⟩ := Kd.at_int HR267_5.out (ji23) p268 q268
                              cases e268
                              replace hx268_0 := (HB.out.cell (World.block_lt_of_cell? w _ hx268_0)).trans hx268_0
                              replace p268 := eq_true p268
                              replace q268 := eq_true q268
                              go_wp2
                              go_roundg k2
                              case measure => have := HK1.out; have := HK2.out; omega
                              case rel => exact ⟨(wrap64 (x9_2 + (rd ((rd_T32 l2 (rd l3 x39_2)).f5) (ji23)))), (wrap64 (x39_2 + 1)), (by first | rfl | (simp; done) | (simp only [← hji23] <;> (first | rfl | simp)) | (simp [*]; done)), (by first | rfl | (simp; done) | (simp [*]; done)), H', ⟨by have := HK1.out; have := HK2.out; omega⟩, ⟨by (with_reducible repeat (first | refine blk_drewN ?_ _ | refine blk_drew ?_ | refine blk_alloc ?_ _)); exact BK261.out⟩, ⟨by repeat (first | (with_reducible first | exact HB.out | apply below_alloc | apply pw_below_drewN | apply below_drew1 | refine below_set ?_ GE261.out) | exact HB.out)⟩⟩
                            · rw [if_neg c25] at H
                              exact absurd H (by simp)
                          · rw [if_neg c24] at H
                            exact absurd H (by simp)
                        · rw [if_neg c22] at H
                          exact absurd H (by simp)
                      · rw [if_neg c21] at H
                        exact absurd H (by simp)
                    · rw [if_neg c20] at H
                      exact absurd H (by simp)
                  · rw [if_neg c19] at H
                    have c19b0 : ((rd l0_2 x39_2) == a1) = false := beq_eq_false_iff_ne.mpr c19
                    have c19b1 : ((rd l0_2 x39_2) != a1) = true := bne_iff_ne.mpr c19
                    have H' := Aside0.mk H
                    clear H
                    have p265 : 0 ≤ (x39_2 : Int) := of_decide_eq_true (by first | (with_reducible assumption) | assumption)
                    have q265 : x39_2 < (l0_2.length : Int) := of_decide_eq_true (by first | (with_reducible assumption) | assumption)
                    obtain ⟨ad265, e265, hx265_0⟩ := Kd.at_int HR0_2.out x39_2 p265 q265
                    cases e265
                    replace hx265_0 := (HB.out.cell (World.block_lt_of_cell? w _ hx265_0)).trans hx265_0
                    replace p265 := eq_true p265
                    replace q265 := eq_true q265
                    go_wp2
                    go_roundg k2
                    case measure => have := HK1.out; have := HK2.out; omega
                    case rel => exact ⟨(x9_2), (wrap64 (x39_2 + 1)), (by first | rfl | (simp; done) | (simp [*]; done)), (by first | rfl | (simp; done) | (simp [*]; done)), H', ⟨by have := HK1.out; have := HK2.out; omega⟩, ⟨by (with_reducible repeat (first | refine blk_drewN ?_ _ | refine blk_drew ?_ | refine blk_alloc ?_ _)); exact BK261.out⟩, ⟨by repeat (first | (with_reducible first | exact HB.out | apply below_alloc | apply pw_below_drewN | apply below_drew1 | refine below_set ?_ GE261.out) | exact HB.out)⟩⟩
                · rw [if_neg c18] at H
                  exact absurd H (by simp)
              · rw [if_neg c17] at H
                exact absurd H (by simp)
            · rw [if_neg c16] at H
              have c16b0 : decide (x39_2 < (l0_2.length : Int)) = false := decide_eq_false c16
              clear c16
              obtain rfl := Option.some.inj H
              go_wp2
              go_ret
              exact ⟨by first | rfl | (simp [errW_none, errW_some] <;> rfl) | (simp [*, errW_none, errW_some] <;> rfl), by repeat (first | (with_reducible first | exact HB.out | apply below_alloc | apply pw_below_drewN | apply below_drew1 | refine below_set ?_ GE261.out) | exact HB.out)⟩

end Go.Proofs.Ytagpbgabcenodaa.PB
