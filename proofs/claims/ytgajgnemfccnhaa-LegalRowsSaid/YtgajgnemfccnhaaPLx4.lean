-- PRINTED by print.py (a twelfth state) out of the translation. Not trusted: Lean checks it.
import Derived.Test.YtgajgnemfccnhaaPLx0
import Derived.Test.YtgajgnemfccnhaaPLx1
import Derived.Test.YtgajgnemfccnhaaPLx2
import Derived.Test.YtgajgnemfccnhaaPLx3
namespace Go.Proofs.Ytgajgnemfccnhaa.PL
open Go.RowKit Go.Proofs.YtgajgnemfccnhaaW.PrintWords Go.Proofs.YtgajgnemfccnhaaW.PrintLast Go.Proofs.YtgajgnemfccnhaaW.PrintMore
attribute [local go_sem] max2_int min2_int max_two min_two max_three min_three max_four min_four   -- for this text's walks alone
set_option linter.unusedVariables false
set_option linter.unusedSimpArgs false

/-! ### floor_checkPort: function 50 -/
mutual
def floor_checkPort.j1 : Nat → Int → Int → Int → Int → List (S98) → List (S100) → List (S96) → ByteArray → Bool → Int → Int → Option (Int)
 | 0, _, _, _, _, _, _, _, _, _, _, _ => none
 | k + 1, x1, x103000, x103001, x103002, x103003, x103004, x103005, x105000, x105001, x105002, x105003 => if 0 ≤ x1 then (if x1 ≤ (x103005.length : Int) then ((some (x103005.take (x1 : Int).toNat : List (S96))).bind fun y110 => (floor_checkPort.l0 k y110 (y110.length : Int) 0 x103000 x103001 x103002 x103003 x103004 x103005 x105000 x105001 x105002 x105003)) else (none)) else (none)
def floor_checkPort.l0 : Nat → List (S96) → Int → Int → Int → Int → Int → List (S98) → List (S100) → List (S96) → ByteArray → Bool → Int → Int → Option (Int)
 | 0, _, _, _, _, _, _, _, _, _, _, _, _, _ => none
 | k + 1, x77, x78, x79, x103000, x103001, x103002, x103003, x103004, x103005, x105000, x105001, x105002, x105003 => if x79 < x78 then (if 0 ≤ x79 then (if x79 < (x77.length : Int) then (if ((rd_T96 x77 x79).f0).toList = x105000.toList then (floor_checkPort.j3 k x77 x78 x79 (((rd_T96 x77 x79).f1) == x105001) x103000 x103001 x103002 x103003 x103004 x103005 x105000 x105001 x105002 x105003 ((rd_T96 x77 x79).f0) ((rd_T96 x77 x79).f1) ((rd_T96 x77 x79).f2) ((rd_T96 x77 x79).f3)) else (floor_checkPort.j3 k x77 x78 x79 false x103000 x103001 x103002 x103003 x103004 x103005 x105000 x105001 x105002 x105003 ((rd_T96 x77 x79).f0) ((rd_T96 x77 x79).f1) ((rd_T96 x77 x79).f2) ((rd_T96 x77 x79).f3))) else (none)) else (none)) else (floor_checkPort.l1 k x103004 (x103004.length : Int) 0 x105000 x105001 x105002 x105003)
def floor_checkPort.j3 : Nat → List (S96) → Int → Int → Bool → Int → Int → Int → List (S98) → List (S100) → List (S96) → ByteArray → Bool → Int → Int → ByteArray → Bool → Int → Int → Option (Int)
 | 0, _, _, _, _, _, _, _, _, _, _, _, _, _, _, _, _, _, _ => none
 | k + 1, x77, x78, x79, x94, x103000, x103001, x103002, x103003, x103004, x103005, x105000, x105001, x105002, x105003, x116000, x116001, x116002, x116003 => if x94 = true then (some 6) else (if (mx (mx (mx (wrap64 (x105002 - x116002)) (wrap64 (x116002 - x105002))) (wrap64 (x105003 - x116003))) (wrap64 (x116003 - x105003))) < 2 then (some 15) else (floor_checkPort.l0 k x77 x78 (wrap64 (x79 + 1)) x103000 x103001 x103002 x103003 x103004 x103005 x105000 x105001 x105002 x105003))
def floor_checkPort.l1 : Nat → List (S100) → Int → Int → ByteArray → Bool → Int → Int → Option (Int)
 | 0, _, _, _, _, _, _, _ => none
 | k + 1, x119, x120, x121, x105000, x105001, x105002, x105003 => if x121 < x120 then (if 0 ≤ x121 then (if x121 < (x119.length : Int) then (if ((rd_T100 x119 x121).f0) = 0 then ((floor_within.f x105002 ((rd_T100 x119 x121).f1) ((rd_T100 x119 x121).f3)).bind fun t118 => (if t118 = true then ((floor_within.f x105003 ((rd_T100 x119 x121).f2) ((rd_T100 x119 x121).f4)).bind fun t119 => (if t119 = true then (some 15) else (floor_checkPort.l1 k x119 x120 (wrap64 (x121 + 1)) x105000 x105001 x105002 x105003))) else (floor_checkPort.l1 k x119 x120 (wrap64 (x121 + 1)) x105000 x105001 x105002 x105003))) else (floor_checkPort.l1 k x119 x120 (wrap64 (x121 + 1)) x105000 x105001 x105002 x105003)) else (none)) else (none)) else (some 0)
def floor_checkPort.j0 : Nat → Int → Int → Int → Bool → Int → Int → Int → List (S98) → List (S100) → List (S96) → ByteArray → Bool → Int → Int → Option (Int)
 | 0, _, _, _, _, _, _, _, _, _, _, _, _, _, _ => none
 | k + 1, x1, x6, x7, x27, x103000, x103001, x103002, x103003, x103004, x103005, x105000, x105001, x105002, x105003 => if x27 = true then (some 4) else ((floor_within.f x105002 0 (wrap64 (x6 - 1))).bind fun t108 => (if t108 = true then ((floor_within.f x105003 0 (wrap64 (x7 - 1))).bind fun t109 => (if t109 = true then (if x105002 > 0 then (if x105002 < (wrap64 (x6 - 1)) then (if x105003 > 0 then (if x105003 < (wrap64 (x7 - 1)) then (some 2) else (floor_checkPort.j1 k x1 x103000 x103001 x103002 x103003 x103004 x103005 x105000 x105001 x105002 x105003)) else (floor_checkPort.j1 k x1 x103000 x103001 x103002 x103003 x103004 x103005 x105000 x105001 x105002 x105003)) else (floor_checkPort.j1 k x1 x103000 x103001 x103002 x103003 x103004 x103005 x105000 x105001 x105002 x105003)) else (floor_checkPort.j1 k x1 x103000 x103001 x103002 x103003 x103004 x103005 x105000 x105001 x105002 x105003)) else (some 2))) else (some 2)))
end
def floor_checkPort.f (k : Nat) (a0_0 : Int) (a0_1 : Int) (a0_2 : Int) (l0_3 : List (S98)) (l0_4 : List (S100)) (l0_5 : List (S96)) (a1 : Int) : Option (Int) := if 0 ≤ a1 then (if a1 < (l0_5.length : Int) then ((floor_Size.f a0_0 a0_1 a0_2 l0_3 l0_4 l0_5).bind fun bt105 => ((floor_validName.f k ((rd_T96 l0_5 a1).f0)).bind fun t107 => (if t107 = true then (if ((rd_T96 l0_5 a1).f0).toList = ([] : List UInt8) then (floor_checkPort.j0 k a1 bt105.1 bt105.2 ((rd_T96 l0_5 a1).f1) a0_0 a0_1 a0_2 l0_3 l0_4 l0_5 ((rd_T96 l0_5 a1).f0) ((rd_T96 l0_5 a1).f1) ((rd_T96 l0_5 a1).f2) ((rd_T96 l0_5 a1).f3)) else (floor_checkPort.j0 k a1 bt105.1 bt105.2 false a0_0 a0_1 a0_2 l0_3 l0_4 l0_5 ((rd_T96 l0_5 a1).f0) ((rd_T96 l0_5 a1).f1) ((rd_T96 l0_5 a1).f2) ((rd_T96 l0_5 a1).f3))) else (some 9)))) else (none)) else (none)
theorem floor_checkPort.mono_l : ∀ k, (∀ y0 y1 y2 y3 y4 y5 y6 y7 y8 y9 y10, LeO (floor_checkPort.j1 k y0 y1 y2 y3 y4 y5 y6 y7 y8 y9 y10) (floor_checkPort.j1 (k + 1) y0 y1 y2 y3 y4 y5 y6 y7 y8 y9 y10)) ∧ (∀ y0 y1 y2 y3 y4 y5 y6 y7 y8 y9 y10 y11 y12, LeO (floor_checkPort.l0 k y0 y1 y2 y3 y4 y5 y6 y7 y8 y9 y10 y11 y12) (floor_checkPort.l0 (k + 1) y0 y1 y2 y3 y4 y5 y6 y7 y8 y9 y10 y11 y12)) ∧ (∀ y0 y1 y2 y3 y4 y5 y6 y7 y8 y9 y10 y11 y12 y13 y14 y15 y16 y17, LeO (floor_checkPort.j3 k y0 y1 y2 y3 y4 y5 y6 y7 y8 y9 y10 y11 y12 y13 y14 y15 y16 y17) (floor_checkPort.j3 (k + 1) y0 y1 y2 y3 y4 y5 y6 y7 y8 y9 y10 y11 y12 y13 y14 y15 y16 y17)) ∧ (∀ y0 y1 y2 y3 y4 y5 y6, LeO (floor_checkPort.l1 k y0 y1 y2 y3 y4 y5 y6) (floor_checkPort.l1 (k + 1) y0 y1 y2 y3 y4 y5 y6)) ∧ (∀ y0 y1 y2 y3 y4 y5 y6 y7 y8 y9 y10 y11 y12 y13, LeO (floor_checkPort.j0 k y0 y1 y2 y3 y4 y5 y6 y7 y8 y9 y10 y11 y12 y13) (floor_checkPort.j0 (k + 1) y0 y1 y2 y3 y4 y5 y6 y7 y8 y9 y10 y11 y12 y13))
 | 0 => ⟨fun _ _ _ _ _ _ _ _ _ _ _ r h => by simp [floor_checkPort.j1] at h, fun _ _ _ _ _ _ _ _ _ _ _ _ _ r h => by simp [floor_checkPort.l0] at h, fun _ _ _ _ _ _ _ _ _ _ _ _ _ _ _ _ _ _ r h => by simp [floor_checkPort.j3] at h, fun _ _ _ _ _ _ _ r h => by simp [floor_checkPort.l1] at h, fun _ _ _ _ _ _ _ _ _ _ _ _ _ _ r h => by simp [floor_checkPort.j0] at h⟩
 | k + 1 => by
  obtain ⟨ih0, ih1, ih2, ih3, ih4⟩ := floor_checkPort.mono_l k
  refine ⟨?_, ?_, ?_, ?_, ?_⟩
  · intro y0 y1 y2 y3 y4 y5 y6 y7 y8 y9 y10
    unfold floor_checkPort.j1
    repeat' first
    | (with_reducible exact ih1 _ _ _ _ _ _ _ _ _ _ _ _ _)
    | (with_reducible exact LeO.refl _)
    | (with_reducible exact LeO.none _)
    | (with_reducible refine LeO.ite ?_ ?_)
    | (with_reducible refine LeO.bind ?_ (fun _ => ?_))
  · intro y0 y1 y2 y3 y4 y5 y6 y7 y8 y9 y10 y11 y12
    unfold floor_checkPort.l0
    repeat' first
    | (with_reducible exact ih2 _ _ _ _ _ _ _ _ _ _ _ _ _ _ _ _ _ _)
    | (with_reducible exact ih3 _ _ _ _ _ _ _)
    | (with_reducible exact LeO.refl _)
    | (with_reducible exact LeO.none _)
    | (with_reducible refine LeO.ite ?_ ?_)
    | (with_reducible refine LeO.bind ?_ (fun _ => ?_))
  · intro y0 y1 y2 y3 y4 y5 y6 y7 y8 y9 y10 y11 y12 y13 y14 y15 y16 y17
    unfold floor_checkPort.j3
    repeat' first
    | (with_reducible exact ih1 _ _ _ _ _ _ _ _ _ _ _ _ _)
    | (with_reducible exact LeO.refl _)
    | (with_reducible exact LeO.none _)
    | (with_reducible refine LeO.ite ?_ ?_)
    | (with_reducible refine LeO.bind ?_ (fun _ => ?_))
  · intro y0 y1 y2 y3 y4 y5 y6
    unfold floor_checkPort.l1
    repeat' first
    | (with_reducible exact ih3 _ _ _ _ _ _ _)
    | (with_reducible exact LeO.refl _)
    | (with_reducible exact LeO.none _)
    | (with_reducible refine LeO.ite ?_ ?_)
    | (with_reducible refine LeO.bind ?_ (fun _ => ?_))
  · intro y0 y1 y2 y3 y4 y5 y6 y7 y8 y9 y10 y11 y12 y13
    unfold floor_checkPort.j0
    repeat' first
    | (with_reducible exact ih0 _ _ _ _ _ _ _ _ _ _ _)
    | (with_reducible exact LeO.refl _)
    | (with_reducible exact LeO.none _)
    | (with_reducible refine LeO.ite ?_ ?_)
    | (with_reducible refine LeO.bind ?_ (fun _ => ?_))
theorem floor_checkPort.mono : ∀ a0 a1 a2 a3 a4 a5 a6 k, LeO (floor_checkPort.f k a0 a1 a2 a3 a4 a5 a6) (floor_checkPort.f (k + 1) a0 a1 a2 a3 a4 a5 a6) := by
 intro a0 a1 a2 a3 a4 a5 a6 k
 obtain ⟨ih0, ih1, ih2, ih3, ih4⟩ := floor_checkPort.mono_l k
 unfold floor_checkPort.f
 repeat' first
  | (with_reducible exact ih4 _ _ _ _ _ _ _ _ _ _ _ _ _ _)
  | (with_reducible exact floor_validName.mono _ _)
  | (with_reducible exact LeO.refl _)
  | (with_reducible exact LeO.none _)
  | (with_reducible refine LeO.ite ?_ ?_)
  | (with_reducible refine LeO.bind ?_ (fun _ => ?_))
set_option maxHeartbeats 8000000 in
set_option maxRecDepth 100000 in
theorem floor_checkPort.calls (k : Nat) (a0_0 : Int) (a0_1 : Int) (a0_2 : Int) (A0_3 : Option Addr) (c0_3 : Nat) (l0_3 : List (S98)) (A0_4 : Option Addr) (c0_4 : Nat) (l0_4 : List (S100)) (A0_5 : Option Addr) (c0_5 : Nat) (l0_5 : List (S96)) (a1 : Int) (r : Int) (w : World) (hr0_3 : Kd.C k98 w A0_3 l0_3.length l0_3) (hc0_3 : l0_3.length ≤ c0_3) (hr0_4 : Kd.C k100 w A0_4 l0_4.length l0_4) (hc0_4 : l0_4.length ≤ c0_4) (hr0_5 : Kd.C k96 w A0_5 l0_5.length l0_5) (hc0_5 : l0_5.length ≤ c0_5) (h : floor_checkPort.f k a0_0 a0_1 a0_2 l0_3 l0_4 l0_5 a1 = some r) :
 Calls Try.prog 50 #[.agg #[.int .i64 a0_0, .int .i64 a0_1, .int .i64 a0_2, .slice A0_3 l0_3.length c0_3, .slice A0_4 l0_4.length c0_4, .slice A0_5 l0_5.length c0_5], .int .i64 a1] w fun e w' => e = .returned (.int .i64 r) ∧ Below w.heap.size w w' := by
 have HR0_3 := Aside0.mk hr0_3
 have HC0_3 := Aside0.mk hc0_3
 clear hr0_3 hc0_3
 have HR0_4 := Aside0.mk hr0_4
 have HC0_4 := Aside0.mk hc0_4
 clear hr0_4 hc0_4
 have HR0_5 := Aside0.mk hr0_5
 have HC0_5 := Aside0.mk hc0_5
 clear hr0_5 hc0_5
 have HB := Aside0.mk (Below.refl w.heap.size w)
 have H : (if 0 ≤ a1 then (if a1 < (l0_5.length : Int) then ((floor_Size.f a0_0 a0_1 a0_2 l0_3 l0_4 l0_5).bind fun bt105 => ((floor_validName.f k ((rd_T96 l0_5 a1).f0)).bind fun t107 => (if t107 = true then (if ((rd_T96 l0_5 a1).f0).toList = ([] : List UInt8) then (floor_checkPort.j0 k a1 bt105.1 bt105.2 ((rd_T96 l0_5 a1).f1) a0_0 a0_1 a0_2 l0_3 l0_4 l0_5 ((rd_T96 l0_5 a1).f0) ((rd_T96 l0_5 a1).f1) ((rd_T96 l0_5 a1).f2) ((rd_T96 l0_5 a1).f3)) else (floor_checkPort.j0 k a1 bt105.1 bt105.2 false a0_0 a0_1 a0_2 l0_3 l0_4 l0_5 ((rd_T96 l0_5 a1).f0) ((rd_T96 l0_5 a1).f1) ((rd_T96 l0_5 a1).f2) ((rd_T96 l0_5 a1).f3))) else (some 9)))) else (none)) else (none)) = some r := h
 clear h
 by_cases c3 : 0 ≤ a1
 rotate_left
 · rw [if_neg c3] at H
   exact absurd H (by simp)
 rw [if_pos c3] at H
 have c3b0 : decide (0 ≤ a1) = true := decide_eq_true c3
 clear c3
 by_cases c4 : a1 < (l0_5.length : Int)
 rotate_left
 · rw [if_neg c4] at H
   exact absurd H (by simp)
 rw [if_pos c4] at H
 have c4b0 : decide (a1 < (l0_5.length : Int)) = true := decide_eq_true c4
 clear c4
 replace H := Option.bind_eq_some_iff.mp H
 obtain ⟨⟨t105, t106⟩, A50, H⟩ := H
 replace H : ((floor_validName.f k ((rd_T96 l0_5 a1).f0)).bind fun t107 => (if t107 = true then (if ((rd_T96 l0_5 a1).f0).toList = ([] : List UInt8) then (floor_checkPort.j0 k a1 t105 t106 ((rd_T96 l0_5 a1).f1) a0_0 a0_1 a0_2 l0_3 l0_4 l0_5 ((rd_T96 l0_5 a1).f0) ((rd_T96 l0_5 a1).f1) ((rd_T96 l0_5 a1).f2) ((rd_T96 l0_5 a1).f3)) else (floor_checkPort.j0 k a1 t105 t106 false a0_0 a0_1 a0_2 l0_3 l0_4 l0_5 ((rd_T96 l0_5 a1).f0) ((rd_T96 l0_5 a1).f1) ((rd_T96 l0_5 a1).f2) ((rd_T96 l0_5 a1).f3))) else (some 9))) = some r := H
 have A5 := Aside0.mk A50
 clear A50
 have HC6 := Aside0.mk H
 clear H
 go_enter Try.func50, Try.ntmps50
 go_upto_block 0 with (first | ((with_reducible refine gate_dst (N := 2) rfl ?_); refine box_event ?hg (N := 2) ?hd (cs := #[.int .i64 a0_0, .int .i64 a0_1, .int .i64 a0_2, .slice A0_3 l0_3.length c0_3, .slice A0_4 l0_4.length c0_4, .slice A0_5 l0_5.length c0_5]) (t := 57) ?hr ?_; (case hd => rfl); (case hg => rfl); (case hr => first | (go_simp; done) | (go_simp; rfl)); intro gb102 hg w7 hbox hb; have n0_ := Aside0.mk (below_step (by repeat (first | (with_reducible first | exact HB.out | apply below_alloc | apply pw_below_drewN | apply below_drew1) | exact HB.out)) hb); have n1_ := Aside0.mk (hbox); have n2_ := Aside0.mk ((by rw [hg]; exact (below_size (by repeat (first | (with_reducible first | exact HB.out | apply below_alloc | apply pw_below_drewN | apply below_drew1) | exact HB.out))) : w.heap.size ≤ gb102)); have n3_ := Aside0.mk ((by rw [hg]; exact (below_size (by repeat (first | (with_reducible first | exact HB.out | apply below_alloc | apply pw_below_drewN | apply below_drew1) | exact HB.out))) : w.heap.size ≤ gb102)); clear HB; have HB := n0_; have BK102 := n1_; have GE102 := n3_; clear n0_ n1_ n2_ n3_; clear hb hbox hg; have hcz8_0 : w7.cell? ⟨gb102, 0, none⟩ = some (.int .i64 a0_0) := (blk_cell BK102.out 0).trans rfl; have hcz8_1 : w7.cell? ⟨gb102, 1, none⟩ = some (.int .i64 a0_1) := (blk_cell BK102.out 1).trans rfl; have hcz8_2 : w7.cell? ⟨gb102, 2, none⟩ = some (.int .i64 a0_2) := (blk_cell BK102.out 2).trans rfl; have hcz8_3 : w7.cell? ⟨gb102, 3, none⟩ = some (.slice A0_3 l0_3.length c0_3) := (blk_cell BK102.out 3).trans rfl; have hcz8_4 : w7.cell? ⟨gb102, 4, none⟩ = some (.slice A0_4 l0_4.length c0_4) := (blk_cell BK102.out 4).trans rfl; have hcz8_5 : w7.cell? ⟨gb102, 5, none⟩ = some (.slice A0_5 l0_5.length c0_5) := (blk_cell BK102.out 5).trans rfl; have hfz8_0 := blk_frozen BK102.out 0; have hfz8_1 := blk_frozen BK102.out 1; have hfz8_2 := blk_frozen BK102.out 2; have hfz8_3 := blk_frozen BK102.out 3; have hfz8_4 := blk_frozen BK102.out 4; have hfz8_5 := blk_frozen BK102.out 5; have p103 : 0 ≤ (a1 : Int) := of_decide_eq_true (by first | (with_reducible assumption) | assumption); have q103 : a1 < (l0_5.length : Int) := of_decide_eq_true (by first | (with_reducible assumption) | assumption); obtain ⟨ad103, e103, hx103_0, hx103_1, hx103_2, hx103_3⟩ := at_T96 HR0_5.out a1 p103 q103; cases e103; replace hx103_0 := (HB.out.cell (World.block_lt_of_cell? w _ hx103_0)).trans hx103_0; replace hx103_1 := (HB.out.cell (World.block_lt_of_cell? w _ hx103_1)).trans hx103_1; replace hx103_2 := (HB.out.cell (World.block_lt_of_cell? w _ hx103_2)).trans hx103_2; replace hx103_3 := (HB.out.cell (World.block_lt_of_cell? w _ hx103_3)).trans hx103_3; replace p103 := eq_true p103; replace q103 := eq_true q103) | ((with_reducible refine gate_dst (N := 5) rfl ?_); refine box_event ?hg (N := 5) ?hd (cs := #[.string (⟨#[]⟩ : ByteArray), .bool false, .int .i64 0, .int .i64 0]) (t := 96) ?hr ?_; (case hd => rfl); (case hg => rfl); (case hr => first | (go_simp; done) | (go_simp; rfl)); intro gb104 hg w9 hbox hb; have n0_ := Aside0.mk (blk_below (g := gb102) (o := .cells #[.int .i64 a0_0, .int .i64 a0_1, .int .i64 a0_2, .slice A0_3 l0_3.length c0_3, .slice A0_4 l0_4.length c0_4, .slice (some ad103) l0_5.length c0_5] 57 (0, 0)) (by (with_reducible repeat (first | refine blk_drewN ?_ _ | refine blk_drew ?_ | refine blk_alloc ?_ _)); exact BK102.out) hb); have n1_ := Aside0.mk (below_step (by repeat (first | (with_reducible first | exact HB.out | apply below_alloc | apply pw_below_drewN | apply below_drew1 | refine below_set ?_ GE102.out) | exact HB.out)) hb); have n2_ := Aside0.mk (hbox); have n3_ := Aside0.mk ((by rw [hg]; exact (below_size (by repeat (first | (with_reducible first | exact HB.out | apply below_alloc | apply pw_below_drewN | apply below_drew1 | refine below_set ?_ GE102.out) | exact HB.out))) : w.heap.size ≤ gb104)); have n4_ := Aside0.mk ((by rw [hg]; exact (below_size (by repeat (first | (with_reducible first | exact HB.out | apply below_alloc | apply pw_below_drewN | apply below_drew1 | refine below_set ?_ GE102.out) | exact HB.out))) : w.heap.size ≤ gb104)); have n5_ := Aside0.mk ((by rw [hg]; exact Nat.ne_of_lt (blk_lt (g := gb102) (o := .cells #[.int .i64 a0_0, .int .i64 a0_1, .int .i64 a0_2, .slice A0_3 l0_3.length c0_3, .slice A0_4 l0_4.length c0_4, .slice (some ad103) l0_5.length c0_5] 57 (0, 0)) (by (with_reducible repeat (first | refine blk_drewN ?_ _ | refine blk_drew ?_ | refine blk_alloc ?_ _)); exact BK102.out)) : gb102 ≠ gb104)); have n6_ := Aside0.mk ((by rw [hg]; exact Nat.ne_of_gt (blk_lt (g := gb102) (o := .cells #[.int .i64 a0_0, .int .i64 a0_1, .int .i64 a0_2, .slice A0_3 l0_3.length c0_3, .slice A0_4 l0_4.length c0_4, .slice (some ad103) l0_5.length c0_5] 57 (0, 0)) (by (with_reducible repeat (first | refine blk_drewN ?_ _ | refine blk_drew ?_ | refine blk_alloc ?_ _)); exact BK102.out)) : gb104 ≠ gb102)); clear BK102; clear HB; have BK102 := n0_; have HB := n1_; have BK104 := n2_; have GE104 := n4_; have NB102_104 := n5_; have NB104_102 := n6_; clear n0_ n1_ n2_ n3_ n4_ n5_ n6_; clear hb hbox hg; have hnc10 := NB102_104.out; have hcz11_0 : w9.cell? ⟨gb104, 0, none⟩ = some (.string (⟨#[]⟩ : ByteArray)) := (blk_cell BK104.out 0).trans rfl; have hcz11_1 : w9.cell? ⟨gb104, 1, none⟩ = some (.bool false) := (blk_cell BK104.out 1).trans rfl; have hcz11_2 : w9.cell? ⟨gb104, 2, none⟩ = some (.int .i64 0) := (blk_cell BK104.out 2).trans rfl; have hcz11_3 : w9.cell? ⟨gb104, 3, none⟩ = some (.int .i64 0) := (blk_cell BK104.out 3).trans rfl; have hfz11_0 := blk_frozen BK104.out 0; have hfz11_1 := blk_frozen BK104.out 1; have hfz11_2 := blk_frozen BK104.out 2; have hfz11_3 := blk_frozen BK104.out 3; have hcz12_0 : w9.cell? ⟨gb102, 0, none⟩ = some (.int .i64 a0_0) := (blk_cell BK102.out 0).trans rfl; have hcz12_1 : w9.cell? ⟨gb102, 1, none⟩ = some (.int .i64 a0_1) := (blk_cell BK102.out 1).trans rfl; have hcz12_2 : w9.cell? ⟨gb102, 2, none⟩ = some (.int .i64 a0_2) := (blk_cell BK102.out 2).trans rfl; have hcz12_3 : w9.cell? ⟨gb102, 3, none⟩ = some (.slice A0_3 l0_3.length c0_3) := (blk_cell BK102.out 3).trans rfl; have hcz12_4 : w9.cell? ⟨gb102, 4, none⟩ = some (.slice A0_4 l0_4.length c0_4) := (blk_cell BK102.out 4).trans rfl; have hcz12_5 : w9.cell? ⟨gb102, 5, none⟩ = some (.slice (some ad103) l0_5.length c0_5) := (blk_cell BK102.out 5).trans rfl; have hfz12_0 := blk_frozen BK102.out 0; have hfz12_1 := blk_frozen BK102.out 1; have hfz12_2 := blk_frozen BK102.out 2; have hfz12_3 := blk_frozen BK102.out 3; have hfz12_4 := blk_frozen BK102.out 4; have hfz12_5 := blk_frozen BK102.out 5) | ((with_reducible refine gate_callee (f := 27) rfl ?_); refine goesL_ (some 19) rfl rfl Try.func27 (by kernel_rfl) rfl #[.agg #[.int .i64 a0_0, .int .i64 a0_1, .int .i64 a0_2, .slice A0_3 l0_3.length c0_3, .slice A0_4 l0_4.length c0_4, .slice (some ad103) l0_5.length c0_5]] rfl (by (try simp only [List.map_toArray, List.map_cons, List.map_nil]); first | done | rfl | (simp only [List.length_drop, List.length_take]; rfl)) ?_; (with_reducible refine (floor_Size.calls a0_0 a0_1 a0_2 _ _ l0_3 _ _ l0_4 _ _ l0_5 t105 t106 _ ?side1 ?side2 ?side3 ?side4 ?side5 ?side6 A5.out).mono ?_); (case side1 => exact Kd.C_below HR0_3.out (by repeat (first | (with_reducible first | exact HB.out | apply below_alloc | apply pw_below_drewN | apply below_drew1 | refine below_set ?_ GE102.out | refine below_set ?_ GE104.out) | exact HB.out))); (case side2 => exact HC0_3.out); (case side3 => exact Kd.C_below HR0_4.out (by repeat (first | (with_reducible first | exact HB.out | apply below_alloc | apply pw_below_drewN | apply below_drew1 | refine below_set ?_ GE102.out | refine below_set ?_ GE104.out) | exact HB.out))); (case side4 => exact HC0_4.out); (case side5 => exact Kd.C_below HR0_5.out (by repeat (first | (with_reducible first | exact HB.out | apply below_alloc | apply pw_below_drewN | apply below_drew1 | refine below_set ?_ GE102.out | refine below_set ?_ GE104.out) | exact HB.out))); (case side6 => exact HC0_5.out); rintro e w13 ⟨rfl, hb⟩; refine ⟨_, rfl, ?_⟩; have n0_ := Aside0.mk (blk_below (g := gb102) (o := .cells #[.int .i64 a0_0, .int .i64 a0_1, .int .i64 a0_2, .slice A0_3 l0_3.length c0_3, .slice A0_4 l0_4.length c0_4, .slice (some ad103) l0_5.length c0_5] 57 (0, 0)) (by (with_reducible repeat (first | refine blk_drewN ?_ _ | refine blk_drew ?_ | refine blk_alloc ?_ _)); refine blk_far ?_ NB102_104.out _; (with_reducible repeat (first | refine blk_drewN ?_ _ | refine blk_drew ?_ | refine blk_alloc ?_ _)); refine blk_far ?_ NB102_104.out _; (with_reducible repeat (first | refine blk_drewN ?_ _ | refine blk_drew ?_ | refine blk_alloc ?_ _)); refine blk_far ?_ NB102_104.out _; (with_reducible repeat (first | refine blk_drewN ?_ _ | refine blk_drew ?_ | refine blk_alloc ?_ _)); refine blk_far ?_ NB102_104.out _; (with_reducible repeat (first | refine blk_drewN ?_ _ | refine blk_drew ?_ | refine blk_alloc ?_ _)); exact BK102.out) hb); have n1_ := Aside0.mk (blk_below (g := gb104) (o := .cells #[.string ((rd_T96 l0_5 a1).f0), .bool ((rd_T96 l0_5 a1).f1), .int .i64 ((rd_T96 l0_5 a1).f2), .int .i64 ((rd_T96 l0_5 a1).f3)] 96 (0, 0)) (by (with_reducible repeat (first | refine blk_drewN ?_ _ | refine blk_drew ?_ | refine blk_alloc ?_ _)); refine blk_put (cs := #[.string ((rd_T96 l0_5 a1).f0), .bool ((rd_T96 l0_5 a1).f1), .int .i64 ((rd_T96 l0_5 a1).f2), .int .i64 0]) ?_ 3 _ rfl; (with_reducible repeat (first | refine blk_drewN ?_ _ | refine blk_drew ?_ | refine blk_alloc ?_ _)); refine blk_put (cs := #[.string ((rd_T96 l0_5 a1).f0), .bool ((rd_T96 l0_5 a1).f1), .int .i64 0, .int .i64 0]) ?_ 2 _ rfl; (with_reducible repeat (first | refine blk_drewN ?_ _ | refine blk_drew ?_ | refine blk_alloc ?_ _)); refine blk_put (cs := #[.string ((rd_T96 l0_5 a1).f0), .bool false, .int .i64 0, .int .i64 0]) ?_ 1 _ rfl; (with_reducible repeat (first | refine blk_drewN ?_ _ | refine blk_drew ?_ | refine blk_alloc ?_ _)); refine blk_put (cs := #[.string (⟨#[]⟩ : ByteArray), .bool false, .int .i64 0, .int .i64 0]) ?_ 0 _ rfl; (with_reducible repeat (first | refine blk_drewN ?_ _ | refine blk_drew ?_ | refine blk_alloc ?_ _)); exact BK104.out) hb); have n2_ := Aside0.mk (below_step (by repeat (first | (with_reducible first | exact HB.out | apply below_alloc | apply pw_below_drewN | apply below_drew1 | refine below_set ?_ GE102.out | refine below_set ?_ GE104.out) | exact HB.out)) hb); clear BK102; clear BK104; clear HB; have BK102 := n0_; have BK104 := n1_; have HB := n2_; clear n0_ n1_ n2_; (try clear hb); (try clear hb2); (try clear hk); (try clear hi)))
 (try simp only [Act.put, List.setIfInBounds_toArray, List.set_cons_zero, List.set_cons_succ])
 go_cut [] (fun wc => ∃ (kq : Nat), Aside0 (floor_checkPort.j1 kq a1 a0_0 a0_1 a0_2 l0_3 l0_4 l0_5 ((rd_T96 l0_5 a1).f0) ((rd_T96 l0_5 a1).f1) ((rd_T96 l0_5 a1).f2) ((rd_T96 l0_5 a1).f3) = some r) ∧ Aside0 (kq ≤ k) ∧ Aside0 (wc.heap[gb102]? = some (.cells #[.int .i64 a0_0, .int .i64 a0_1, .int .i64 a0_2, (.slice A0_3 l0_3.length c0_3), (.slice A0_4 l0_4.length c0_4), (.slice (some ad103) l0_5.length c0_5)] 57 (0, 0))) ∧ Aside0 (wc.heap[gb104]? = some (.cells #[.string ((rd_T96 l0_5 a1).f0), .bool ((rd_T96 l0_5 a1).f1), .int .i64 ((rd_T96 l0_5 a1).f2), .int .i64 ((rd_T96 l0_5 a1).f3)] 96 (0, 0))) ∧ Aside0 (Below w.heap.size w wc))
 case first =>
  have H := HC6.out
  clear HC6
  replace H := Option.bind_eq_some_iff.mp H
  obtain ⟨t107, A140, H⟩ := H
  replace H : (if t107 = true then (if ((rd_T96 l0_5 a1).f0).toList = ([] : List UInt8) then (floor_checkPort.j0 k a1 t105 t106 ((rd_T96 l0_5 a1).f1) a0_0 a0_1 a0_2 l0_3 l0_4 l0_5 ((rd_T96 l0_5 a1).f0) ((rd_T96 l0_5 a1).f1) ((rd_T96 l0_5 a1).f2) ((rd_T96 l0_5 a1).f3)) else (floor_checkPort.j0 k a1 t105 t106 false a0_0 a0_1 a0_2 l0_3 l0_4 l0_5 ((rd_T96 l0_5 a1).f0) ((rd_T96 l0_5 a1).f1) ((rd_T96 l0_5 a1).f2) ((rd_T96 l0_5 a1).f3))) else (some 9)) = some r := H
  have A14 := Aside0.mk A140
  clear A140
  by_cases c15 : t107 = true
  rotate_left
  · replace c15 := Bool.eq_false_iff.mpr c15
    subst c15
    have H1 : (some 9) = some r := by rw [if_neg (show ¬ (false = true) by decide)] at H; exact H
    clear H
    have H := H1
    clear H1
    obtain rfl := Option.some.inj H
    have hcz48_0 : w13.cell? ⟨gb104, 0, none⟩ = some (.string ((rd_T96 l0_5 a1).f0)) := (blk_cell BK104.out 0).trans rfl
    go_wp2_with ((with_reducible refine gate_callee (f := 58) rfl ?_); refine goesL_ (some 25) rfl rfl Try.func58 (by kernel_rfl) rfl #[.string ((rd_T96 l0_5 a1).f0)] rfl (by (try simp only [List.map_toArray, List.map_cons, List.map_nil]); first | done | rfl | (simp only [List.length_drop, List.length_take]; rfl)) ?_; (with_reducible refine (floor_validName.calls k ((rd_T96 l0_5 a1).f0) false _ A14.out).mono ?_); rintro e w' ⟨rfl, ⟨nd, rfl⟩⟩; refine ⟨_, rfl, ?_⟩)
    go_ret
    exact ⟨by first | rfl | (simp [errW_none, errW_some] <;> rfl) | (simp [*, errW_none, errW_some] <;> rfl), by repeat (first | (with_reducible first | exact HB.out | apply below_alloc | apply pw_below_drewN | apply below_drew1 | refine below_set ?_ GE102.out | refine below_set ?_ GE104.out) | exact HB.out)⟩
  subst c15
  have H1 : (if ((rd_T96 l0_5 a1).f0).toList = ([] : List UInt8) then (floor_checkPort.j0 k a1 t105 t106 ((rd_T96 l0_5 a1).f1) a0_0 a0_1 a0_2 l0_3 l0_4 l0_5 ((rd_T96 l0_5 a1).f0) ((rd_T96 l0_5 a1).f1) ((rd_T96 l0_5 a1).f2) ((rd_T96 l0_5 a1).f3)) else (floor_checkPort.j0 k a1 t105 t106 false a0_0 a0_1 a0_2 l0_3 l0_4 l0_5 ((rd_T96 l0_5 a1).f0) ((rd_T96 l0_5 a1).f1) ((rd_T96 l0_5 a1).f2) ((rd_T96 l0_5 a1).f3))) = some r := by rw [if_pos rfl] at H; exact H
  clear H
  have H := H1
  clear H1
  have HC16 := Aside0.mk H
  clear H
  have hcz18_0 : w13.cell? ⟨gb104, 0, none⟩ = some (.string ((rd_T96 l0_5 a1).f0)) := (blk_cell BK104.out 0).trans rfl
  have hcz18_1 : w13.cell? ⟨gb104, 1, none⟩ = some (.bool ((rd_T96 l0_5 a1).f1)) := (blk_cell BK104.out 1).trans rfl
  have hcz18_2 : w13.cell? ⟨gb104, 2, none⟩ = some (.int .i64 ((rd_T96 l0_5 a1).f2)) := (blk_cell BK104.out 2).trans rfl
  have hcz18_3 : w13.cell? ⟨gb104, 3, none⟩ = some (.int .i64 ((rd_T96 l0_5 a1).f3)) := (blk_cell BK104.out 3).trans rfl
  have hfz18_0 := blk_frozen BK104.out 0
  have hfz18_1 := blk_frozen BK104.out 1
  have hfz18_2 := blk_frozen BK104.out 2
  have hfz18_3 := blk_frozen BK104.out 3
  go_upto_region 5 with ((with_reducible refine gate_callee (f := 58) rfl ?_); refine goesL_ (some 25) rfl rfl Try.func58 (by kernel_rfl) rfl #[.string ((rd_T96 l0_5 a1).f0)] rfl (by (try simp only [List.map_toArray, List.map_cons, List.map_nil]); first | done | rfl | (simp only [List.length_drop, List.length_take]; rfl)) ?_; (with_reducible refine (floor_validName.calls k ((rd_T96 l0_5 a1).f0) true _ A14.out).mono ?_); rintro e w' ⟨rfl, ⟨nd, rfl⟩⟩; refine ⟨_, rfl, ?_⟩)
  (try simp only [Act.put, List.setIfInBounds_toArray, List.set_cons_zero, List.set_cons_succ])
  go_cut [27] (fun v27 wc => ∃ (kq : Nat) (x27_15 : Bool), v27 = .bool x27_15 ∧ Aside0 (floor_checkPort.j0 kq a1 t105 t106 x27_15 a0_0 a0_1 a0_2 l0_3 l0_4 l0_5 ((rd_T96 l0_5 a1).f0) ((rd_T96 l0_5 a1).f1) ((rd_T96 l0_5 a1).f2) ((rd_T96 l0_5 a1).f3) = some r) ∧ Aside0 (kq ≤ k) ∧ Aside0 (wc.heap[gb102]? = some (.cells #[.int .i64 a0_0, .int .i64 a0_1, .int .i64 a0_2, (.slice A0_3 l0_3.length c0_3), (.slice A0_4 l0_4.length c0_4), (.slice (some ad103) l0_5.length c0_5)] 57 (0, 0))) ∧ Aside0 (wc.heap[gb104]? = some (.cells #[.string ((rd_T96 l0_5 a1).f0), .bool ((rd_T96 l0_5 a1).f1), .int .i64 ((rd_T96 l0_5 a1).f2), .int .i64 ((rd_T96 l0_5 a1).f3)] 96 (0, 0))) ∧ Aside0 (Below w.heap.size w wc))
  case first =>
   have H := HC16.out
   clear HC16
   by_cases c19 : ((rd_T96 l0_5 a1).f0).toList = ([] : List UInt8)
   rotate_left
   · rw [if_neg c19] at H
     have c19b0 : (((rd_T96 l0_5 a1).f0).toList == ([] : List UInt8)) = false := beq_eq_false_iff_ne.mpr c19
     (first | rw [c19b0] | (simp only [i64_w, i32_w]; rw [c19b0]) | skip)
     have H' := Aside0.mk H
     clear H
     go_wp2
     go_meet
     case rel => exact ⟨_, (false), (by first | rfl | (simp; done) | (simp [*]; done)), H', ⟨by first | omega | exact Nat.le_refl _⟩, ⟨by (with_reducible repeat (first | refine blk_drewN ?_ _ | refine blk_drew ?_ | refine blk_alloc ?_ _)); exact BK102.out⟩, ⟨by (with_reducible repeat (first | refine blk_drewN ?_ _ | refine blk_drew ?_ | refine blk_alloc ?_ _)); exact BK104.out⟩, ⟨by repeat (first | (with_reducible first | exact HB.out | apply below_alloc | apply pw_below_drewN | apply below_drew1 | refine below_set ?_ GE102.out | refine below_set ?_ GE104.out) | exact HB.out)⟩⟩
   rw [if_pos c19] at H
   have c19b0 : (((rd_T96 l0_5 a1).f0).toList == ([] : List UInt8)) = true := beq_iff_eq.mpr c19
   clear c19
   (first | rw [c19b0] | (simp only [i64_w, i32_w]; rw [c19b0]) | skip)
   have H' := Aside0.mk H
   clear H
   go_wp2
   go_meet
   case rel => exact ⟨_, ((rd_T96 l0_5 a1).f1), (by first | rfl | (simp; done) | (simp [*]; done)), H', ⟨by first | omega | exact Nat.le_refl _⟩, ⟨by (with_reducible repeat (first | refine blk_drewN ?_ _ | refine blk_drew ?_ | refine blk_alloc ?_ _)); exact BK102.out⟩, ⟨by (with_reducible repeat (first | refine blk_drewN ?_ _ | refine blk_drew ?_ | refine blk_alloc ?_ _)); exact BK104.out⟩, ⟨by repeat (first | (with_reducible first | exact HB.out | apply below_alloc | apply pw_below_drewN | apply below_drew1 | refine below_set ?_ GE102.out | refine below_set ?_ GE104.out) | exact HB.out)⟩⟩
  clear HC16
  clear c3b0 c4b0 hcz11_0 hcz11_1 hcz11_2 hcz11_3 hcz12_0 hcz12_1 hcz12_2 hcz12_3 hcz12_4 hcz12_5 hcz18_0 hcz18_1 hcz18_2 hcz18_3 hcz8_0 hcz8_1 hcz8_2 hcz8_3 hcz8_4 hcz8_5 hfz11_0 hfz11_1 hfz11_2 hfz11_3 hfz12_0 hfz12_1 hfz12_2 hfz12_3 hfz12_4 hfz12_5 hfz18_0 hfz18_1 hfz18_2 hfz18_3 hfz8_0 hfz8_1 hfz8_2 hfz8_3 hfz8_4 hfz8_5 hx103_0 hx103_1 hx103_2 hx103_3 p103 q103
  obtain ⟨kq, x27_15, rfl, HA, HJ15, BK102, BK104, HB⟩ := hcut
  cases kq with
  | zero => exact absurd HA.out (by simp [floor_checkPort.j0])
  | succ kj15 =>
   have H := HA.out
   clear HA
   simp only [floor_checkPort.j0] at H
   by_cases c24 : x27_15 = true
   · subst c24
     have H1 : (some 4) = some r := by rw [if_pos rfl] at H; exact H
     clear H
     have H := H1
     clear H1
     obtain rfl := Option.some.inj H
     go_wp2
     go_ret
     exact ⟨by first | rfl | (simp [errW_none, errW_some] <;> rfl) | (simp [*, errW_none, errW_some] <;> rfl), by repeat (first | (with_reducible first | exact HB.out | apply below_alloc | apply pw_below_drewN | apply below_drew1 | refine below_set ?_ GE102.out | refine below_set ?_ GE104.out) | exact HB.out)⟩
   replace c24 := Bool.eq_false_iff.mpr c24
   subst c24
   have H1 : ((floor_within.f ((rd_T96 l0_5 a1).f2) 0 (wrap64 (t105 - 1))).bind fun t108 => (if t108 = true then ((floor_within.f ((rd_T96 l0_5 a1).f3) 0 (wrap64 (t106 - 1))).bind fun t109 => (if t109 = true then (if ((rd_T96 l0_5 a1).f2) > 0 then (if ((rd_T96 l0_5 a1).f2) < (wrap64 (t105 - 1)) then (if ((rd_T96 l0_5 a1).f3) > 0 then (if ((rd_T96 l0_5 a1).f3) < (wrap64 (t106 - 1)) then (some 2) else (floor_checkPort.j1 kj15 a1 a0_0 a0_1 a0_2 l0_3 l0_4 l0_5 ((rd_T96 l0_5 a1).f0) ((rd_T96 l0_5 a1).f1) ((rd_T96 l0_5 a1).f2) ((rd_T96 l0_5 a1).f3))) else (floor_checkPort.j1 kj15 a1 a0_0 a0_1 a0_2 l0_3 l0_4 l0_5 ((rd_T96 l0_5 a1).f0) ((rd_T96 l0_5 a1).f1) ((rd_T96 l0_5 a1).f2) ((rd_T96 l0_5 a1).f3))) else (floor_checkPort.j1 kj15 a1 a0_0 a0_1 a0_2 l0_3 l0_4 l0_5 ((rd_T96 l0_5 a1).f0) ((rd_T96 l0_5 a1).f1) ((rd_T96 l0_5 a1).f2) ((rd_T96 l0_5 a1).f3))) else (floor_checkPort.j1 kj15 a1 a0_0 a0_1 a0_2 l0_3 l0_4 l0_5 ((rd_T96 l0_5 a1).f0) ((rd_T96 l0_5 a1).f1) ((rd_T96 l0_5 a1).f2) ((rd_T96 l0_5 a1).f3))) else (some 2))) else (some 2))) = some r := by rw [if_neg (show ¬ (false = true) by decide)] at H; exact H
   clear H
   have H := H1
   clear H1
   replace H := Option.bind_eq_some_iff.mp H
   obtain ⟨t108, A250, H⟩ := H
   replace H : (if t108 = true then ((floor_within.f ((rd_T96 l0_5 a1).f3) 0 (wrap64 (t106 - 1))).bind fun t109 => (if t109 = true then (if ((rd_T96 l0_5 a1).f2) > 0 then (if ((rd_T96 l0_5 a1).f2) < (wrap64 (t105 - 1)) then (if ((rd_T96 l0_5 a1).f3) > 0 then (if ((rd_T96 l0_5 a1).f3) < (wrap64 (t106 - 1)) then (some 2) else (floor_checkPort.j1 kj15 a1 a0_0 a0_1 a0_2 l0_3 l0_4 l0_5 ((rd_T96 l0_5 a1).f0) ((rd_T96 l0_5 a1).f1) ((rd_T96 l0_5 a1).f2) ((rd_T96 l0_5 a1).f3))) else (floor_checkPort.j1 kj15 a1 a0_0 a0_1 a0_2 l0_3 l0_4 l0_5 ((rd_T96 l0_5 a1).f0) ((rd_T96 l0_5 a1).f1) ((rd_T96 l0_5 a1).f2) ((rd_T96 l0_5 a1).f3))) else (floor_checkPort.j1 kj15 a1 a0_0 a0_1 a0_2 l0_3 l0_4 l0_5 ((rd_T96 l0_5 a1).f0) ((rd_T96 l0_5 a1).f1) ((rd_T96 l0_5 a1).f2) ((rd_T96 l0_5 a1).f3))) else (floor_checkPort.j1 kj15 a1 a0_0 a0_1 a0_2 l0_3 l0_4 l0_5 ((rd_T96 l0_5 a1).f0) ((rd_T96 l0_5 a1).f1) ((rd_T96 l0_5 a1).f2) ((rd_T96 l0_5 a1).f3))) else (some 2))) else (some 2)) = some r := H
   have A25 := Aside0.mk A250
   clear A250
   by_cases c26 : t108 = true
   rotate_left
   · replace c26 := Bool.eq_false_iff.mpr c26
     subst c26
     have H1 : (some 2) = some r := by rw [if_neg (show ¬ (false = true) by decide)] at H; exact H
     clear H
     have H := H1
     clear H1
     obtain rfl := Option.some.inj H
     have hcz46_2 : wc.cell? ⟨gb104, 2, none⟩ = some (.int .i64 ((rd_T96 l0_5 a1).f2)) := (blk_cell BK104.out 2).trans rfl
     go_wp2_with ((with_reducible refine gate_callee (f := 49) rfl ?_); refine goesL_ (some 40) rfl rfl Try.func49 (by kernel_rfl) rfl #[.int .i64 ((rd_T96 l0_5 a1).f2), .int .i64 0, .int .i64 (wrap64 (t105 - 1))] rfl (by (try simp only [List.map_toArray, List.map_cons, List.map_nil]); first | done | rfl | (simp only [List.length_drop, List.length_take]; rfl)) ?_; (with_reducible refine (floor_within.calls ((rd_T96 l0_5 a1).f2) 0 (wrap64 (t105 - 1)) false _ A25.out).mono ?_); rintro e w' ⟨rfl, ⟨nd, rfl⟩⟩; refine ⟨_, rfl, ?_⟩)
     go_ret
     exact ⟨by first | rfl | (simp [errW_none, errW_some] <;> rfl) | (simp [*, errW_none, errW_some] <;> rfl), by repeat (first | (with_reducible first | exact HB.out | apply below_alloc | apply pw_below_drewN | apply below_drew1 | refine below_set ?_ GE102.out | refine below_set ?_ GE104.out) | exact HB.out)⟩
   subst c26
   have H1 : ((floor_within.f ((rd_T96 l0_5 a1).f3) 0 (wrap64 (t106 - 1))).bind fun t109 => (if t109 = true then (if ((rd_T96 l0_5 a1).f2) > 0 then (if ((rd_T96 l0_5 a1).f2) < (wrap64 (t105 - 1)) then (if ((rd_T96 l0_5 a1).f3) > 0 then (if ((rd_T96 l0_5 a1).f3) < (wrap64 (t106 - 1)) then (some 2) else (floor_checkPort.j1 kj15 a1 a0_0 a0_1 a0_2 l0_3 l0_4 l0_5 ((rd_T96 l0_5 a1).f0) ((rd_T96 l0_5 a1).f1) ((rd_T96 l0_5 a1).f2) ((rd_T96 l0_5 a1).f3))) else (floor_checkPort.j1 kj15 a1 a0_0 a0_1 a0_2 l0_3 l0_4 l0_5 ((rd_T96 l0_5 a1).f0) ((rd_T96 l0_5 a1).f1) ((rd_T96 l0_5 a1).f2) ((rd_T96 l0_5 a1).f3))) else (floor_checkPort.j1 kj15 a1 a0_0 a0_1 a0_2 l0_3 l0_4 l0_5 ((rd_T96 l0_5 a1).f0) ((rd_T96 l0_5 a1).f1) ((rd_T96 l0_5 a1).f2) ((rd_T96 l0_5 a1).f3))) else (floor_checkPort.j1 kj15 a1 a0_0 a0_1 a0_2 l0_3 l0_4 l0_5 ((rd_T96 l0_5 a1).f0) ((rd_T96 l0_5 a1).f1) ((rd_T96 l0_5 a1).f2) ((rd_T96 l0_5 a1).f3))) else (some 2))) = some r := by rw [if_pos rfl] at H; exact H
   clear H
   have H := H1
   clear H1
   replace H := Option.bind_eq_some_iff.mp H
   obtain ⟨t109, A270, H⟩ := H
   replace H : (if t109 = true then (if ((rd_T96 l0_5 a1).f2) > 0 then (if ((rd_T96 l0_5 a1).f2) < (wrap64 (t105 - 1)) then (if ((rd_T96 l0_5 a1).f3) > 0 then (if ((rd_T96 l0_5 a1).f3) < (wrap64 (t106 - 1)) then (some 2) else (floor_checkPort.j1 kj15 a1 a0_0 a0_1 a0_2 l0_3 l0_4 l0_5 ((rd_T96 l0_5 a1).f0) ((rd_T96 l0_5 a1).f1) ((rd_T96 l0_5 a1).f2) ((rd_T96 l0_5 a1).f3))) else (floor_checkPort.j1 kj15 a1 a0_0 a0_1 a0_2 l0_3 l0_4 l0_5 ((rd_T96 l0_5 a1).f0) ((rd_T96 l0_5 a1).f1) ((rd_T96 l0_5 a1).f2) ((rd_T96 l0_5 a1).f3))) else (floor_checkPort.j1 kj15 a1 a0_0 a0_1 a0_2 l0_3 l0_4 l0_5 ((rd_T96 l0_5 a1).f0) ((rd_T96 l0_5 a1).f1) ((rd_T96 l0_5 a1).f2) ((rd_T96 l0_5 a1).f3))) else (floor_checkPort.j1 kj15 a1 a0_0 a0_1 a0_2 l0_3 l0_4 l0_5 ((rd_T96 l0_5 a1).f0) ((rd_T96 l0_5 a1).f1) ((rd_T96 l0_5 a1).f2) ((rd_T96 l0_5 a1).f3))) else (some 2)) = some r := H
   have A27 := Aside0.mk A270
   clear A270
   by_cases c28 : t109 = true
   rotate_left
   · replace c28 := Bool.eq_false_iff.mpr c28
     subst c28
     have H1 : (some 2) = some r := by rw [if_neg (show ¬ (false = true) by decide)] at H; exact H
     clear H
     have H := H1
     clear H1
     obtain rfl := Option.some.inj H
     have hcz44_2 : wc.cell? ⟨gb104, 2, none⟩ = some (.int .i64 ((rd_T96 l0_5 a1).f2)) := (blk_cell BK104.out 2).trans rfl
     have hcz44_3 : wc.cell? ⟨gb104, 3, none⟩ = some (.int .i64 ((rd_T96 l0_5 a1).f3)) := (blk_cell BK104.out 3).trans rfl
     go_wp2_with (first | ((with_reducible refine gate_callee (f := 49) rfl ?_); refine goesL_ (some 40) rfl rfl Try.func49 (by kernel_rfl) rfl #[.int .i64 ((rd_T96 l0_5 a1).f2), .int .i64 0, .int .i64 (wrap64 (t105 - 1))] rfl (by (try simp only [List.map_toArray, List.map_cons, List.map_nil]); first | done | rfl | (simp only [List.length_drop, List.length_take]; rfl)) ?_; (with_reducible refine (floor_within.calls ((rd_T96 l0_5 a1).f2) 0 (wrap64 (t105 - 1)) true _ A25.out).mono ?_); rintro e w' ⟨rfl, ⟨nd, rfl⟩⟩; refine ⟨_, rfl, ?_⟩) | (go_at_call 49; (with_reducible refine (floor_within.calls ((rd_T96 l0_5 a1).f3) 0 (wrap64 (t106 - 1)) false _ A27.out).mono ?_); rintro e w' ⟨rfl, ⟨nd, rfl⟩⟩))
     go_ret
     exact ⟨by first | rfl | (simp [errW_none, errW_some] <;> rfl) | (simp [*, errW_none, errW_some] <;> rfl), by repeat (first | (with_reducible first | exact HB.out | apply below_alloc | apply pw_below_drewN | apply below_drew1 | refine below_set ?_ GE102.out | refine below_set ?_ GE104.out) | exact HB.out)⟩
   subst c28
   have H1 : (if ((rd_T96 l0_5 a1).f2) > 0 then (if ((rd_T96 l0_5 a1).f2) < (wrap64 (t105 - 1)) then (if ((rd_T96 l0_5 a1).f3) > 0 then (if ((rd_T96 l0_5 a1).f3) < (wrap64 (t106 - 1)) then (some 2) else (floor_checkPort.j1 kj15 a1 a0_0 a0_1 a0_2 l0_3 l0_4 l0_5 ((rd_T96 l0_5 a1).f0) ((rd_T96 l0_5 a1).f1) ((rd_T96 l0_5 a1).f2) ((rd_T96 l0_5 a1).f3))) else (floor_checkPort.j1 kj15 a1 a0_0 a0_1 a0_2 l0_3 l0_4 l0_5 ((rd_T96 l0_5 a1).f0) ((rd_T96 l0_5 a1).f1) ((rd_T96 l0_5 a1).f2) ((rd_T96 l0_5 a1).f3))) else (floor_checkPort.j1 kj15 a1 a0_0 a0_1 a0_2 l0_3 l0_4 l0_5 ((rd_T96 l0_5 a1).f0) ((rd_T96 l0_5 a1).f1) ((rd_T96 l0_5 a1).f2) ((rd_T96 l0_5 a1).f3))) else (floor_checkPort.j1 kj15 a1 a0_0 a0_1 a0_2 l0_3 l0_4 l0_5 ((rd_T96 l0_5 a1).f0) ((rd_T96 l0_5 a1).f1) ((rd_T96 l0_5 a1).f2) ((rd_T96 l0_5 a1).f3))) = some r := by rw [if_pos rfl] at H; exact H
   clear H
   have H := H1
   clear H1
   by_cases c29 : ((rd_T96 l0_5 a1).f2) > 0
   rotate_left
   · rw [if_neg c29] at H
     have c29b0 : decide (0 < ((rd_T96 l0_5 a1).f2)) = false := decide_eq_false c29
     clear c29
     have H' := Aside0.mk H
     clear H
     have hcz42_2 : wc.cell? ⟨gb104, 2, none⟩ = some (.int .i64 ((rd_T96 l0_5 a1).f2)) := (blk_cell BK104.out 2).trans rfl
     have hcz42_3 : wc.cell? ⟨gb104, 3, none⟩ = some (.int .i64 ((rd_T96 l0_5 a1).f3)) := (blk_cell BK104.out 3).trans rfl
     go_wp2_with (first | ((with_reducible refine gate_callee (f := 49) rfl ?_); refine goesL_ (some 40) rfl rfl Try.func49 (by kernel_rfl) rfl #[.int .i64 ((rd_T96 l0_5 a1).f2), .int .i64 0, .int .i64 (wrap64 (t105 - 1))] rfl (by (try simp only [List.map_toArray, List.map_cons, List.map_nil]); first | done | rfl | (simp only [List.length_drop, List.length_take]; rfl)) ?_; (with_reducible refine (floor_within.calls ((rd_T96 l0_5 a1).f2) 0 (wrap64 (t105 - 1)) true _ A25.out).mono ?_); rintro e w' ⟨rfl, ⟨nd, rfl⟩⟩; refine ⟨_, rfl, ?_⟩) | (go_at_call 49; (with_reducible refine (floor_within.calls ((rd_T96 l0_5 a1).f3) 0 (wrap64 (t106 - 1)) true _ A27.out).mono ?_); rintro e w' ⟨rfl, ⟨nd, rfl⟩⟩))
     go_meet
     case rel => exact ⟨_, H', ⟨by have := HJ15.out; first | omega | exact Nat.le_refl _⟩, ⟨by (with_reducible repeat (first | refine blk_drewN ?_ _ | refine blk_drew ?_ | refine blk_alloc ?_ _)); exact BK102.out⟩, ⟨by (with_reducible repeat (first | refine blk_drewN ?_ _ | refine blk_drew ?_ | refine blk_alloc ?_ _)); exact BK104.out⟩, ⟨by repeat (first | (with_reducible first | exact HB.out | apply below_alloc | apply pw_below_drewN | apply below_drew1 | refine below_set ?_ GE102.out | refine below_set ?_ GE104.out) | exact HB.out)⟩⟩
   rw [if_pos c29] at H
   have c29b0 : decide (0 < ((rd_T96 l0_5 a1).f2)) = true := decide_eq_true c29
   clear c29
   by_cases c30 : ((rd_T96 l0_5 a1).f2) < (wrap64 (t105 - 1))
   rotate_left
   · rw [if_neg c30] at H
     have c30b0 : decide (((rd_T96 l0_5 a1).f2) < (wrap64 (t105 - 1))) = false := decide_eq_false c30
     clear c30
     have H' := Aside0.mk H
     clear H
     have hcz40_2 : wc.cell? ⟨gb104, 2, none⟩ = some (.int .i64 ((rd_T96 l0_5 a1).f2)) := (blk_cell BK104.out 2).trans rfl
     have hcz40_3 : wc.cell? ⟨gb104, 3, none⟩ = some (.int .i64 ((rd_T96 l0_5 a1).f3)) := (blk_cell BK104.out 3).trans rfl
     go_wp2_with (first | ((with_reducible refine gate_callee (f := 49) rfl ?_); refine goesL_ (some 40) rfl rfl Try.func49 (by kernel_rfl) rfl #[.int .i64 ((rd_T96 l0_5 a1).f2), .int .i64 0, .int .i64 (wrap64 (t105 - 1))] rfl (by (try simp only [List.map_toArray, List.map_cons, List.map_nil]); first | done | rfl | (simp only [List.length_drop, List.length_take]; rfl)) ?_; (with_reducible refine (floor_within.calls ((rd_T96 l0_5 a1).f2) 0 (wrap64 (t105 - 1)) true _ A25.out).mono ?_); rintro e w' ⟨rfl, ⟨nd, rfl⟩⟩; refine ⟨_, rfl, ?_⟩) | (go_at_call 49; (with_reducible refine (floor_within.calls ((rd_T96 l0_5 a1).f3) 0 (wrap64 (t106 - 1)) true _ A27.out).mono ?_); rintro e w' ⟨rfl, ⟨nd, rfl⟩⟩))
     go_meet
     case rel => exact ⟨_, H', ⟨by have := HJ15.out; first | omega | exact Nat.le_refl _⟩, ⟨by (with_reducible repeat (first | refine blk_drewN ?_ _ | refine blk_drew ?_ | refine blk_alloc ?_ _)); exact BK102.out⟩, ⟨by (with_reducible repeat (first | refine blk_drewN ?_ _ | refine blk_drew ?_ | refine blk_alloc ?_ _)); exact BK104.out⟩, ⟨by repeat (first | (with_reducible first | exact HB.out | apply below_alloc | apply pw_below_drewN | apply below_drew1 | refine below_set ?_ GE102.out | refine below_set ?_ GE104.out) | exact HB.out)⟩⟩
   rw [if_pos c30] at H
   have c30b0 : decide (((rd_T96 l0_5 a1).f2) < (wrap64 (t105 - 1))) = true := decide_eq_true c30
   clear c30
   by_cases c31 : ((rd_T96 l0_5 a1).f3) > 0
   rotate_left
   · rw [if_neg c31] at H
     have c31b0 : decide (0 < ((rd_T96 l0_5 a1).f3)) = false := decide_eq_false c31
     clear c31
     have H' := Aside0.mk H
     clear H
     have hcz38_2 : wc.cell? ⟨gb104, 2, none⟩ = some (.int .i64 ((rd_T96 l0_5 a1).f2)) := (blk_cell BK104.out 2).trans rfl
     have hcz38_3 : wc.cell? ⟨gb104, 3, none⟩ = some (.int .i64 ((rd_T96 l0_5 a1).f3)) := (blk_cell BK104.out 3).trans rfl
     go_wp2_with (first | ((with_reducible refine gate_callee (f := 49) rfl ?_); refine goesL_ (some 40) rfl rfl Try.func49 (by kernel_rfl) rfl #[.int .i64 ((rd_T96 l0_5 a1).f2), .int .i64 0, .int .i64 (wrap64 (t105 - 1))] rfl (by (try simp only [List.map_toArray, List.map_cons, List.map_nil]); first | done | rfl | (simp only [List.length_drop, List.length_take]; rfl)) ?_; (with_reducible refine (floor_within.calls ((rd_T96 l0_5 a1).f2) 0 (wrap64 (t105 - 1)) true _ A25.out).mono ?_); rintro e w' ⟨rfl, ⟨nd, rfl⟩⟩; refine ⟨_, rfl, ?_⟩) | (go_at_call 49; (with_reducible refine (floor_within.calls ((rd_T96 l0_5 a1).f3) 0 (wrap64 (t106 - 1)) true _ A27.out).mono ?_); rintro e w' ⟨rfl, ⟨nd, rfl⟩⟩))
     go_meet
     case rel => exact ⟨_, H', ⟨by have := HJ15.out; first | omega | exact Nat.le_refl _⟩, ⟨by (with_reducible repeat (first | refine blk_drewN ?_ _ | refine blk_drew ?_ | refine blk_alloc ?_ _)); exact BK102.out⟩, ⟨by (with_reducible repeat (first | refine blk_drewN ?_ _ | refine blk_drew ?_ | refine blk_alloc ?_ _)); exact BK104.out⟩, ⟨by repeat (first | (with_reducible first | exact HB.out | apply below_alloc | apply pw_below_drewN | apply below_drew1 | refine below_set ?_ GE102.out | refine below_set ?_ GE104.out) | exact HB.out)⟩⟩
   rw [if_pos c31] at H
   have c31b0 : decide (0 < ((rd_T96 l0_5 a1).f3)) = true := decide_eq_true c31
   clear c31
   by_cases c32 : ((rd_T96 l0_5 a1).f3) < (wrap64 (t106 - 1))
   · rw [if_pos c32] at H
     have c32b0 : decide (((rd_T96 l0_5 a1).f3) < (wrap64 (t106 - 1))) = true := decide_eq_true c32
     clear c32
     obtain rfl := Option.some.inj H
     have hcz34_2 : wc.cell? ⟨gb104, 2, none⟩ = some (.int .i64 ((rd_T96 l0_5 a1).f2)) := (blk_cell BK104.out 2).trans rfl
     have hcz34_3 : wc.cell? ⟨gb104, 3, none⟩ = some (.int .i64 ((rd_T96 l0_5 a1).f3)) := (blk_cell BK104.out 3).trans rfl
     go_wp2_with (first | ((with_reducible refine gate_callee (f := 49) rfl ?_); refine goesL_ (some 40) rfl rfl Try.func49 (by kernel_rfl) rfl #[.int .i64 ((rd_T96 l0_5 a1).f2), .int .i64 0, .int .i64 (wrap64 (t105 - 1))] rfl (by (try simp only [List.map_toArray, List.map_cons, List.map_nil]); first | done | rfl | (simp only [List.length_drop, List.length_take]; rfl)) ?_; (with_reducible refine (floor_within.calls ((rd_T96 l0_5 a1).f2) 0 (wrap64 (t105 - 1)) true _ A25.out).mono ?_); rintro e w' ⟨rfl, ⟨nd, rfl⟩⟩; refine ⟨_, rfl, ?_⟩) | (go_at_call 49; (with_reducible refine (floor_within.calls ((rd_T96 l0_5 a1).f3) 0 (wrap64 (t106 - 1)) true _ A27.out).mono ?_); rintro e w' ⟨rfl, ⟨nd, rfl⟩⟩))
     go_ret
     exact ⟨by first | rfl | (simp [errW_none, errW_some] <;> rfl) | (simp [*, errW_none, errW_some] <;> rfl), by repeat (first | (with_reducible first | exact HB.out | apply below_alloc | apply pw_below_drewN | apply below_drew1 | refine below_set ?_ GE102.out | refine below_set ?_ GE104.out) | exact HB.out)⟩
   rw [if_neg c32] at H
   have c32b0 : decide (((rd_T96 l0_5 a1).f3) < (wrap64 (t106 - 1))) = false := decide_eq_false c32
   clear c32
   have H' := Aside0.mk H
   clear H
   have hcz36_2 : wc.cell? ⟨gb104, 2, none⟩ = some (.int .i64 ((rd_T96 l0_5 a1).f2)) := (blk_cell BK104.out 2).trans rfl
   have hcz36_3 : wc.cell? ⟨gb104, 3, none⟩ = some (.int .i64 ((rd_T96 l0_5 a1).f3)) := (blk_cell BK104.out 3).trans rfl
   go_wp2_with (first | ((with_reducible refine gate_callee (f := 49) rfl ?_); refine goesL_ (some 40) rfl rfl Try.func49 (by kernel_rfl) rfl #[.int .i64 ((rd_T96 l0_5 a1).f2), .int .i64 0, .int .i64 (wrap64 (t105 - 1))] rfl (by (try simp only [List.map_toArray, List.map_cons, List.map_nil]); first | done | rfl | (simp only [List.length_drop, List.length_take]; rfl)) ?_; (with_reducible refine (floor_within.calls ((rd_T96 l0_5 a1).f2) 0 (wrap64 (t105 - 1)) true _ A25.out).mono ?_); rintro e w' ⟨rfl, ⟨nd, rfl⟩⟩; refine ⟨_, rfl, ?_⟩) | (go_at_call 49; (with_reducible refine (floor_within.calls ((rd_T96 l0_5 a1).f3) 0 (wrap64 (t106 - 1)) true _ A27.out).mono ?_); rintro e w' ⟨rfl, ⟨nd, rfl⟩⟩))
   go_meet
   case rel => exact ⟨_, H', ⟨by have := HJ15.out; first | omega | exact Nat.le_refl _⟩, ⟨by (with_reducible repeat (first | refine blk_drewN ?_ _ | refine blk_drew ?_ | refine blk_alloc ?_ _)); exact BK102.out⟩, ⟨by (with_reducible repeat (first | refine blk_drewN ?_ _ | refine blk_drew ?_ | refine blk_alloc ?_ _)); exact BK104.out⟩, ⟨by repeat (first | (with_reducible first | exact HB.out | apply below_alloc | apply pw_below_drewN | apply below_drew1 | refine below_set ?_ GE102.out | refine below_set ?_ GE104.out) | exact HB.out)⟩⟩
 clear HC6
 clear c3b0 c4b0 hcz11_0 hcz11_1 hcz11_2 hcz11_3 hcz12_0 hcz12_1 hcz12_2 hcz12_3 hcz12_4 hcz12_5 hcz8_0 hcz8_1 hcz8_2 hcz8_3 hcz8_4 hcz8_5 hfz11_0 hfz11_1 hfz11_2 hfz11_3 hfz12_0 hfz12_1 hfz12_2 hfz12_3 hfz12_4 hfz12_5 hfz8_0 hfz8_1 hfz8_2 hfz8_3 hfz8_4 hfz8_5 hx103_0 hx103_1 hx103_2 hx103_3 p103 q103
 obtain ⟨kq, HA, HJ5, BK102, BK104, HB⟩ := hcut
 cases kq with
 | zero => exact absurd HA.out (by simp [floor_checkPort.j1])
 | succ kj5 =>
  have H := HA.out
  clear HA
  simp only [floor_checkPort.j1] at H
  by_cases c49 : 0 ≤ a1
  rotate_left
  · rw [if_neg c49] at H
    exact absurd H (by simp)
  rw [if_pos c49] at H
  have c49b0 := eq_true c49
  have c49b1 : decide (0 ≤ a1) = true := decide_eq_true c49
  clear c49
  by_cases c50 : a1 ≤ (l0_5.length : Int)
  rotate_left
  · rw [if_neg c50] at H
    exact absurd H (by simp)
  rw [if_pos c50] at H
  have c50b0 := eq_true c50
  have c50b1 : decide (a1 ≤ (l0_5.length : Int)) = true := decide_eq_true c50
  clear c50
  obtain ⟨y110, hy110⟩ : ∃ y_ : List (S96), y_ = (l0_5.take (a1 : Int).toNat) := ⟨_, rfl⟩
  replace H : (floor_checkPort.l0 kj5 y110 (y110.length : Int) 0 a0_0 a0_1 a0_2 l0_3 l0_4 l0_5 ((rd_T96 l0_5 a1).f0) ((rd_T96 l0_5 a1).f1) ((rd_T96 l0_5 a1).f2) ((rd_T96 l0_5 a1).f3)) = some r := by first | (rw [hy110]; with_reducible exact H) | (have H2_ := (Option.bind_some _ _).symm.trans H; rw [hy110]; with_reducible exact H2_) | (have H2_ := (Option.bind_some _ _).symm.trans H; with_reducible exact H2_) | with_reducible exact H | (rw [hy110]; exact H) | exact H
  have Ny110 := Aside0.mk hy110
  clear hy110
  have H' := Aside0.mk H
  clear H
  have hcz52_0 : wc.cell? ⟨gb102, 0, none⟩ = some (.int .i64 a0_0) := (blk_cell BK102.out 0).trans rfl
  have hcz52_1 : wc.cell? ⟨gb102, 1, none⟩ = some (.int .i64 a0_1) := (blk_cell BK102.out 1).trans rfl
  have hcz52_2 : wc.cell? ⟨gb102, 2, none⟩ = some (.int .i64 a0_2) := (blk_cell BK102.out 2).trans rfl
  have hcz52_3 : wc.cell? ⟨gb102, 3, none⟩ = some (.slice A0_3 l0_3.length c0_3) := (blk_cell BK102.out 3).trans rfl
  have hcz52_4 : wc.cell? ⟨gb102, 4, none⟩ = some (.slice A0_4 l0_4.length c0_4) := (blk_cell BK102.out 4).trans rfl
  have hcz52_5 : wc.cell? ⟨gb102, 5, none⟩ = some (.slice (some ad103) l0_5.length c0_5) := (blk_cell BK102.out 5).trans rfl
  have hfz52_0 := blk_frozen BK102.out 0
  have hfz52_1 := blk_frozen BK102.out 1
  have hfz52_2 := blk_frozen BK102.out 2
  have hfz52_3 := blk_frozen BK102.out 3
  have hfz52_4 := blk_frozen BK102.out 4
  have hfz52_5 := blk_frozen BK102.out 5
  have q53 : (a1 : Int) ≤ ((l0_5.length : Int) : Int) := of_decide_eq_true (by first | (with_reducible assumption) | assumption)
  obtain ⟨i053, hi053, _, hsz53, _⟩ := info_parts info96
  have hroom53 : l0_5.length ≤ c0_5 := HC0_5.out
  have hC53 : Kd.C k96 _ (some ad103) l0_5.length l0_5 := HR0_5.out
  have hcut53 := cut_to (P := Try.prog) 55 96 .i64 Try.underlying55 hi053 (some ad103) l0_5.length c0_5 a1 (of_decide_eq_true (by first | (with_reducible assumption) | assumption)) q53 hroom53
  have hr53 := Kd.C_take (m := (a1 : Int).toNat) hC53 (by omega)
  have hy53 : y110.length = (a1 : Int).toNat := (by rw [Ny110.out, List.length_take]; omega)
  rw [← Ny110.out] at hr53
  rw [← hy53] at hcut53
  have HR113 := Aside0.mk hr53
  clear hr53 hC53 hroom53 hi053 hsz53
  clear hy53
  replace q53 := eq_true q53
  go_wp2
  go_loopg [79] kj5 (fun kq v79 w' => ∃ (x79_2 : Int), v79 = .int .i64 x79_2 ∧ Aside0 (floor_checkPort.l0 kq y110 (y110.length : Int) x79_2 a0_0 a0_1 a0_2 l0_3 l0_4 l0_5 ((rd_T96 l0_5 a1).f0) ((rd_T96 l0_5 a1).f1) ((rd_T96 l0_5 a1).f2) ((rd_T96 l0_5 a1).f3) = some r) ∧ Aside0 (kq ≤ kj5) ∧ Aside0 (w'.heap[gb102]? = some (.cells #[.int .i64 a0_0, .int .i64 a0_1, .int .i64 a0_2, (.slice A0_3 l0_3.length c0_3), (.slice A0_4 l0_4.length c0_4), (.slice (some ad103) l0_5.length c0_5)] 57 (0, 0))) ∧ Aside0 (w'.heap[gb104]? = some (.cells #[.string ((rd_T96 l0_5 a1).f0), .bool ((rd_T96 l0_5 a1).f1), .int .i64 ((rd_T96 l0_5 a1).f2), .int .i64 ((rd_T96 l0_5 a1).f3)] 96 (0, 0))) ∧ Aside0 (Below w.heap.size w w'))
  case atStart => exact ⟨(0), (by first | rfl | (simp; done) | (simp [*]; done)), H', ⟨Nat.le_refl _⟩, ⟨by (with_reducible repeat (first | refine blk_drewN ?_ _ | refine blk_drew ?_ | refine blk_alloc ?_ _)); exact BK102.out⟩, ⟨by (with_reducible repeat (first | refine blk_drewN ?_ _ | refine blk_drew ?_ | refine blk_alloc ?_ _)); exact BK104.out⟩, ⟨by repeat (first | (with_reducible first | exact HB.out | apply below_alloc | apply pw_below_drewN | apply below_drew1 | refine below_set ?_ GE102.out | refine below_set ?_ GE104.out) | exact HB.out)⟩⟩
  clear H'
  clear c49b0 c49b1 c50b0 c50b1 q53 hcz52_0 hcz52_1 hcz52_2 hcz52_3 hcz52_4 hcz52_5 hfz52_0 hfz52_1 hfz52_2 hfz52_3 hfz52_4 hfz52_5
  obtain ⟨x79_2, rfl, HA, HK2, BK102, BK104, HB⟩ := hrel
  cases gk with
  | zero => exact absurd HA.out (by simp [floor_checkPort.l0])
  | succ k2 =>
   have H := HA.out
   clear HA
   simp only [floor_checkPort.l0] at H
   by_cases c54 : x79_2 < (y110.length : Int)
   · rw [if_pos c54] at H
     have c54b0 : decide (x79_2 < (y110.length : Int)) = true := decide_eq_true c54
     clear c54
     by_cases c55 : 0 ≤ x79_2
     rotate_left
     · rw [if_neg c55] at H
       exact absurd H (by simp)
     rw [if_pos c55] at H
     have c55b0 : decide (0 ≤ x79_2) = true := decide_eq_true c55
     clear c55
     by_cases c56 : x79_2 < (y110.length : Int)
     rotate_left
     · rw [if_neg c56] at H
       exact absurd H (by simp)
     rw [if_pos c56] at H
     have c56b0 : decide (x79_2 < (y110.length : Int)) = true := decide_eq_true c56
     clear c56
     have HC57 := Aside0.mk H
     clear H
     have p114 : 0 ≤ (x79_2 : Int) := of_decide_eq_true (by first | (with_reducible assumption) | assumption)
     have q114 : x79_2 < (y110.length : Int) := of_decide_eq_true (by first | (with_reducible assumption) | assumption)
     obtain ⟨ad114, e114, hx114_0, hx114_1, hx114_2, hx114_3⟩ := at_T96 HR113.out x79_2 p114 q114
     obtain rfl : ad103 = ad114 := (by injection e114)
     replace hx114_0 := (HB.out.cell (World.block_lt_of_cell? w _ hx114_0)).trans hx114_0
     replace hx114_1 := (HB.out.cell (World.block_lt_of_cell? w _ hx114_1)).trans hx114_1
     replace hx114_2 := (HB.out.cell (World.block_lt_of_cell? w _ hx114_2)).trans hx114_2
     replace hx114_3 := (HB.out.cell (World.block_lt_of_cell? w _ hx114_3)).trans hx114_3
     replace p114 := eq_true p114
     replace q114 := eq_true q114
     go_upto_region 12 with ((with_reducible refine gate_dst (N := 9) rfl ?_); refine box_event ?hg (N := 9) ?hd (cs := #[.string (⟨#[]⟩ : ByteArray), .bool false, .int .i64 0, .int .i64 0]) (t := 96) ?hr ?_; (case hd => rfl); (case hg => rfl); (case hr => first | (go_simp; done) | (go_simp; rfl)); intro gb115 hg w58 hbox hb; have n0_ := Aside0.mk (blk_below (g := gb102) (o := .cells #[.int .i64 a0_0, .int .i64 a0_1, .int .i64 a0_2, .slice A0_3 l0_3.length c0_3, .slice A0_4 l0_4.length c0_4, .slice (some ad103) l0_5.length c0_5] 57 (0, 0)) (by (with_reducible repeat (first | refine blk_drewN ?_ _ | refine blk_drew ?_ | refine blk_alloc ?_ _)); exact BK102.out) hb); have n1_ := Aside0.mk (blk_below (g := gb104) (o := .cells #[.string ((rd_T96 l0_5 a1).f0), .bool ((rd_T96 l0_5 a1).f1), .int .i64 ((rd_T96 l0_5 a1).f2), .int .i64 ((rd_T96 l0_5 a1).f3)] 96 (0, 0)) (by (with_reducible repeat (first | refine blk_drewN ?_ _ | refine blk_drew ?_ | refine blk_alloc ?_ _)); exact BK104.out) hb); have n2_ := Aside0.mk (below_step (by repeat (first | (with_reducible first | exact HB.out | apply below_alloc | apply pw_below_drewN | apply below_drew1 | refine below_set ?_ GE102.out | refine below_set ?_ GE104.out) | exact HB.out)) hb); have n3_ := Aside0.mk (hbox); have n4_ := Aside0.mk ((by rw [hg]; exact (below_size (by repeat (first | (with_reducible first | exact HB.out | apply below_alloc | apply pw_below_drewN | apply below_drew1 | refine below_set ?_ GE102.out | refine below_set ?_ GE104.out) | exact HB.out))) : w.heap.size ≤ gb115)); have n5_ := Aside0.mk ((by rw [hg]; exact (below_size (by repeat (first | (with_reducible first | exact HB.out | apply below_alloc | apply pw_below_drewN | apply below_drew1 | refine below_set ?_ GE102.out | refine below_set ?_ GE104.out) | exact HB.out))) : w.heap.size ≤ gb115)); have n6_ := Aside0.mk ((by rw [hg]; exact Nat.ne_of_lt (blk_lt (g := gb102) (o := .cells #[.int .i64 a0_0, .int .i64 a0_1, .int .i64 a0_2, .slice A0_3 l0_3.length c0_3, .slice A0_4 l0_4.length c0_4, .slice (some ad103) l0_5.length c0_5] 57 (0, 0)) (by (with_reducible repeat (first | refine blk_drewN ?_ _ | refine blk_drew ?_ | refine blk_alloc ?_ _)); exact BK102.out)) : gb102 ≠ gb115)); have n7_ := Aside0.mk ((by rw [hg]; exact Nat.ne_of_gt (blk_lt (g := gb102) (o := .cells #[.int .i64 a0_0, .int .i64 a0_1, .int .i64 a0_2, .slice A0_3 l0_3.length c0_3, .slice A0_4 l0_4.length c0_4, .slice (some ad103) l0_5.length c0_5] 57 (0, 0)) (by (with_reducible repeat (first | refine blk_drewN ?_ _ | refine blk_drew ?_ | refine blk_alloc ?_ _)); exact BK102.out)) : gb115 ≠ gb102)); have n8_ := Aside0.mk ((by rw [hg]; exact Nat.ne_of_lt (blk_lt (g := gb104) (o := .cells #[.string ((rd_T96 l0_5 a1).f0), .bool ((rd_T96 l0_5 a1).f1), .int .i64 ((rd_T96 l0_5 a1).f2), .int .i64 ((rd_T96 l0_5 a1).f3)] 96 (0, 0)) (by (with_reducible repeat (first | refine blk_drewN ?_ _ | refine blk_drew ?_ | refine blk_alloc ?_ _)); exact BK104.out)) : gb104 ≠ gb115)); have n9_ := Aside0.mk ((by rw [hg]; exact Nat.ne_of_gt (blk_lt (g := gb104) (o := .cells #[.string ((rd_T96 l0_5 a1).f0), .bool ((rd_T96 l0_5 a1).f1), .int .i64 ((rd_T96 l0_5 a1).f2), .int .i64 ((rd_T96 l0_5 a1).f3)] 96 (0, 0)) (by (with_reducible repeat (first | refine blk_drewN ?_ _ | refine blk_drew ?_ | refine blk_alloc ?_ _)); exact BK104.out)) : gb115 ≠ gb104)); clear BK102; clear BK104; clear HB; have BK102 := n0_; have BK104 := n1_; have HB := n2_; have BK115 := n3_; have GE115 := n5_; have NB102_115 := n6_; have NB115_102 := n7_; have NB104_115 := n8_; have NB115_104 := n9_; clear n0_ n1_ n2_ n3_ n4_ n5_ n6_ n7_ n8_ n9_; clear hb hbox hg; have hcz61_0 : w58.cell? ⟨gb115, 0, none⟩ = some (.string (⟨#[]⟩ : ByteArray)) := (blk_cell BK115.out 0).trans rfl; have hcz61_1 : w58.cell? ⟨gb115, 1, none⟩ = some (.bool false) := (blk_cell BK115.out 1).trans rfl; have hcz61_2 : w58.cell? ⟨gb115, 2, none⟩ = some (.int .i64 0) := (blk_cell BK115.out 2).trans rfl; have hcz61_3 : w58.cell? ⟨gb115, 3, none⟩ = some (.int .i64 0) := (blk_cell BK115.out 3).trans rfl; have hfz61_0 := blk_frozen BK115.out 0; have hfz61_1 := blk_frozen BK115.out 1; have hfz61_2 := blk_frozen BK115.out 2; have hfz61_3 := blk_frozen BK115.out 3)
     (try simp only [Act.put, List.setIfInBounds_toArray, List.set_cons_zero, List.set_cons_succ])
     go_cut [94] (fun v94 wc => ∃ (kq : Nat) (x94_56 : Bool), v94 = .bool x94_56 ∧ Aside0 (floor_checkPort.j3 kq y110 (y110.length : Int) x79_2 x94_56 a0_0 a0_1 a0_2 l0_3 l0_4 l0_5 ((rd_T96 l0_5 a1).f0) ((rd_T96 l0_5 a1).f1) ((rd_T96 l0_5 a1).f2) ((rd_T96 l0_5 a1).f3) ((rd_T96 y110 x79_2).f0) ((rd_T96 y110 x79_2).f1) ((rd_T96 y110 x79_2).f2) ((rd_T96 y110 x79_2).f3) = some r) ∧ Aside0 (kq ≤ k2) ∧ Aside0 (wc.heap[gb102]? = some (.cells #[.int .i64 a0_0, .int .i64 a0_1, .int .i64 a0_2, (.slice A0_3 l0_3.length c0_3), (.slice A0_4 l0_4.length c0_4), (.slice (some ad103) l0_5.length c0_5)] 57 (0, 0))) ∧ Aside0 (wc.heap[gb104]? = some (.cells #[.string ((rd_T96 l0_5 a1).f0), .bool ((rd_T96 l0_5 a1).f1), .int .i64 ((rd_T96 l0_5 a1).f2), .int .i64 ((rd_T96 l0_5 a1).f3)] 96 (0, 0))) ∧ Aside0 (wc.heap[gb115]? = some (.cells #[.string ((rd_T96 y110 x79_2).f0), .bool ((rd_T96 y110 x79_2).f1), .int .i64 ((rd_T96 y110 x79_2).f2), .int .i64 ((rd_T96 y110 x79_2).f3)] 96 (0, 0))) ∧ Aside0 (Below w.heap.size w wc))
     case first =>
      have H := HC57.out
      clear HC57
      by_cases c62 : ((rd_T96 y110 x79_2).f0).toList = ((rd_T96 l0_5 a1).f0).toList
      rotate_left
      · rw [if_neg c62] at H
        have c62b0 : (((rd_T96 y110 x79_2).f0).toList == ((rd_T96 l0_5 a1).f0).toList) = false := beq_eq_false_iff_ne.mpr c62
        (first | rw [c62b0] | (simp only [i64_w, i32_w]; rw [c62b0]) | skip)
        have H' := Aside0.mk H
        clear H
        have hnc69 := NB104_115.out
        have hnb71 := NB104_102.out
        have hnc71 := NB102_104.out
        have hcz72_0 : w58.cell? ⟨gb104, 0, none⟩ = some (.string ((rd_T96 l0_5 a1).f0)) := (blk_cell BK104.out 0).trans rfl
        go_wp2
        go_meet
        case rel => exact ⟨_, (false), (by first | rfl | (simp; done) | (simp [*]; done)), H', ⟨by have := HJ5.out; have := HK2.out; first | omega | exact Nat.le_refl _⟩, ⟨by (with_reducible repeat (first | refine blk_drewN ?_ _ | refine blk_drew ?_ | refine blk_alloc ?_ _)); refine blk_far ?_ NB102_115.out _; (with_reducible repeat (first | refine blk_drewN ?_ _ | refine blk_drew ?_ | refine blk_alloc ?_ _)); refine blk_far ?_ NB102_115.out _; (with_reducible repeat (first | refine blk_drewN ?_ _ | refine blk_drew ?_ | refine blk_alloc ?_ _)); refine blk_far ?_ NB102_115.out _; (with_reducible repeat (first | refine blk_drewN ?_ _ | refine blk_drew ?_ | refine blk_alloc ?_ _)); refine blk_far ?_ NB102_115.out _; (with_reducible repeat (first | refine blk_drewN ?_ _ | refine blk_drew ?_ | refine blk_alloc ?_ _)); exact BK102.out⟩, ⟨by (with_reducible repeat (first | refine blk_drewN ?_ _ | refine blk_drew ?_ | refine blk_alloc ?_ _)); refine blk_far ?_ NB104_115.out _; (with_reducible repeat (first | refine blk_drewN ?_ _ | refine blk_drew ?_ | refine blk_alloc ?_ _)); refine blk_far ?_ NB104_115.out _; (with_reducible repeat (first | refine blk_drewN ?_ _ | refine blk_drew ?_ | refine blk_alloc ?_ _)); refine blk_far ?_ NB104_115.out _; (with_reducible repeat (first | refine blk_drewN ?_ _ | refine blk_drew ?_ | refine blk_alloc ?_ _)); refine blk_far ?_ NB104_115.out _; (with_reducible repeat (first | refine blk_drewN ?_ _ | refine blk_drew ?_ | refine blk_alloc ?_ _)); exact BK104.out⟩, ⟨by (with_reducible repeat (first | refine blk_drewN ?_ _ | refine blk_drew ?_ | refine blk_alloc ?_ _)); refine blk_put (cs := #[.string ((rd_T96 y110 x79_2).f0), .bool ((rd_T96 y110 x79_2).f1), .int .i64 ((rd_T96 y110 x79_2).f2), .int .i64 0]) ?_ 3 _ rfl; (with_reducible repeat (first | refine blk_drewN ?_ _ | refine blk_drew ?_ | refine blk_alloc ?_ _)); refine blk_put (cs := #[.string ((rd_T96 y110 x79_2).f0), .bool ((rd_T96 y110 x79_2).f1), .int .i64 0, .int .i64 0]) ?_ 2 _ rfl; (with_reducible repeat (first | refine blk_drewN ?_ _ | refine blk_drew ?_ | refine blk_alloc ?_ _)); refine blk_put (cs := #[.string ((rd_T96 y110 x79_2).f0), .bool false, .int .i64 0, .int .i64 0]) ?_ 1 _ rfl; (with_reducible repeat (first | refine blk_drewN ?_ _ | refine blk_drew ?_ | refine blk_alloc ?_ _)); refine blk_put (cs := #[.string (⟨#[]⟩ : ByteArray), .bool false, .int .i64 0, .int .i64 0]) ?_ 0 _ rfl; (with_reducible repeat (first | refine blk_drewN ?_ _ | refine blk_drew ?_ | refine blk_alloc ?_ _)); exact BK115.out⟩, ⟨by repeat (first | (with_reducible first | exact HB.out | apply below_alloc | apply pw_below_drewN | apply below_drew1 | refine below_set ?_ GE102.out | refine below_set ?_ GE104.out | refine below_set ?_ GE115.out) | exact HB.out)⟩⟩
      rw [if_pos c62] at H
      have c62b0 : (((rd_T96 y110 x79_2).f0).toList == ((rd_T96 l0_5 a1).f0).toList) = true := beq_iff_eq.mpr c62
      clear c62
      (first | rw [c62b0] | (simp only [i64_w, i32_w]; rw [c62b0]) | skip)
      have H' := Aside0.mk H
      clear H
      have hnc64 := NB104_115.out
      have hnb66 := NB104_102.out
      have hnc66 := NB102_104.out
      have hcz67_0 : w58.cell? ⟨gb104, 0, none⟩ = some (.string ((rd_T96 l0_5 a1).f0)) := (blk_cell BK104.out 0).trans rfl
      have hcz67_1 : w58.cell? ⟨gb104, 1, none⟩ = some (.bool ((rd_T96 l0_5 a1).f1)) := (blk_cell BK104.out 1).trans rfl
      go_wp2
      go_meet
      case rel => exact ⟨_, ((((rd_T96 y110 x79_2).f1) == ((rd_T96 l0_5 a1).f1))), (by first | rfl | (simp; done) | (simp [*]; done)), H', ⟨by have := HJ5.out; have := HK2.out; first | omega | exact Nat.le_refl _⟩, ⟨by (with_reducible repeat (first | refine blk_drewN ?_ _ | refine blk_drew ?_ | refine blk_alloc ?_ _)); refine blk_far ?_ NB102_115.out _; (with_reducible repeat (first | refine blk_drewN ?_ _ | refine blk_drew ?_ | refine blk_alloc ?_ _)); refine blk_far ?_ NB102_115.out _; (with_reducible repeat (first | refine blk_drewN ?_ _ | refine blk_drew ?_ | refine blk_alloc ?_ _)); refine blk_far ?_ NB102_115.out _; (with_reducible repeat (first | refine blk_drewN ?_ _ | refine blk_drew ?_ | refine blk_alloc ?_ _)); refine blk_far ?_ NB102_115.out _; (with_reducible repeat (first | refine blk_drewN ?_ _ | refine blk_drew ?_ | refine blk_alloc ?_ _)); exact BK102.out⟩, ⟨by (with_reducible repeat (first | refine blk_drewN ?_ _ | refine blk_drew ?_ | refine blk_alloc ?_ _)); refine blk_far ?_ NB104_115.out _; (with_reducible repeat (first | refine blk_drewN ?_ _ | refine blk_drew ?_ | refine blk_alloc ?_ _)); refine blk_far ?_ NB104_115.out _; (with_reducible repeat (first | refine blk_drewN ?_ _ | refine blk_drew ?_ | refine blk_alloc ?_ _)); refine blk_far ?_ NB104_115.out _; (with_reducible repeat (first | refine blk_drewN ?_ _ | refine blk_drew ?_ | refine blk_alloc ?_ _)); refine blk_far ?_ NB104_115.out _; (with_reducible repeat (first | refine blk_drewN ?_ _ | refine blk_drew ?_ | refine blk_alloc ?_ _)); exact BK104.out⟩, ⟨by (with_reducible repeat (first | refine blk_drewN ?_ _ | refine blk_drew ?_ | refine blk_alloc ?_ _)); refine blk_put (cs := #[.string ((rd_T96 y110 x79_2).f0), .bool ((rd_T96 y110 x79_2).f1), .int .i64 ((rd_T96 y110 x79_2).f2), .int .i64 0]) ?_ 3 _ rfl; (with_reducible repeat (first | refine blk_drewN ?_ _ | refine blk_drew ?_ | refine blk_alloc ?_ _)); refine blk_put (cs := #[.string ((rd_T96 y110 x79_2).f0), .bool ((rd_T96 y110 x79_2).f1), .int .i64 0, .int .i64 0]) ?_ 2 _ rfl; (with_reducible repeat (first | refine blk_drewN ?_ _ | refine blk_drew ?_ | refine blk_alloc ?_ _)); refine blk_put (cs := #[.string ((rd_T96 y110 x79_2).f0), .bool false, .int .i64 0, .int .i64 0]) ?_ 1 _ rfl; (with_reducible repeat (first | refine blk_drewN ?_ _ | refine blk_drew ?_ | refine blk_alloc ?_ _)); refine blk_put (cs := #[.string (⟨#[]⟩ : ByteArray), .bool false, .int .i64 0, .int .i64 0]) ?_ 0 _ rfl; (with_reducible repeat (first | refine blk_drewN ?_ _ | refine blk_drew ?_ | refine blk_alloc ?_ _)); exact BK115.out⟩, ⟨by repeat (first | (with_reducible first | exact HB.out | apply below_alloc | apply pw_below_drewN | apply below_drew1 | refine below_set ?_ GE102.out | refine below_set ?_ GE104.out | refine below_set ?_ GE115.out) | exact HB.out)⟩⟩
     clear HC57
     clear c54b0 c55b0 c56b0 hcz61_0 hcz61_1 hcz61_2 hcz61_3 hfz61_0 hfz61_1 hfz61_2 hfz61_3 hx114_0 hx114_1 hx114_2 hx114_3 p114 q114
     obtain ⟨kq, x94_56, rfl, HA, HJ56, BK102, BK104, BK115, HB⟩ := hcut
     cases kq with
     | zero => exact absurd HA.out (by simp [floor_checkPort.j3])
     | succ kj56 =>
      have H := HA.out
      clear HA
      simp only [floor_checkPort.j3] at H
      by_cases c73 : x94_56 = true
      · subst c73
        have H1 : (some 6) = some r := by rw [if_pos rfl] at H; exact H
        clear H
        have H := H1
        clear H1
        obtain rfl := Option.some.inj H
        go_wp2
        go_ret
        exact ⟨by first | rfl | (simp [errW_none, errW_some] <;> rfl) | (simp [*, errW_none, errW_some] <;> rfl), by repeat (first | (with_reducible first | exact HB.out | apply below_alloc | apply pw_below_drewN | apply below_drew1 | refine below_set ?_ GE102.out | refine below_set ?_ GE104.out | refine below_set ?_ GE115.out) | exact HB.out)⟩
      replace c73 := Bool.eq_false_iff.mpr c73
      subst c73
      have H1 : (if (mx (mx (mx (wrap64 (((rd_T96 l0_5 a1).f2) - ((rd_T96 y110 x79_2).f2))) (wrap64 (((rd_T96 y110 x79_2).f2) - ((rd_T96 l0_5 a1).f2)))) (wrap64 (((rd_T96 l0_5 a1).f3) - ((rd_T96 y110 x79_2).f3)))) (wrap64 (((rd_T96 y110 x79_2).f3) - ((rd_T96 l0_5 a1).f3)))) < 2 then (some 15) else (floor_checkPort.l0 kj56 y110 (y110.length : Int) (wrap64 (x79_2 + 1)) a0_0 a0_1 a0_2 l0_3 l0_4 l0_5 ((rd_T96 l0_5 a1).f0) ((rd_T96 l0_5 a1).f1) ((rd_T96 l0_5 a1).f2) ((rd_T96 l0_5 a1).f3))) = some r := by rw [if_neg (show ¬ (false = true) by decide)] at H; exact H
      clear H
      have H := H1
      clear H1
      obtain ⟨ji74, hji74⟩ : ∃ j_ : Int, (mx (wrap64 (((rd_T96 l0_5 a1).f2) - ((rd_T96 y110 x79_2).f2))) (wrap64 (((rd_T96 y110 x79_2).f2) - ((rd_T96 l0_5 a1).f2)))) = j_ := ⟨_, rfl⟩
      replace H : (if (mx (mx (ji74) (wrap64 (((rd_T96 l0_5 a1).f3) - ((rd_T96 y110 x79_2).f3)))) (wrap64 (((rd_T96 y110 x79_2).f3) - ((rd_T96 l0_5 a1).f3)))) < 2 then (some 15) else (floor_checkPort.l0 kj56 y110 (y110.length : Int) (wrap64 (x79_2 + 1)) a0_0 a0_1 a0_2 l0_3 l0_4 l0_5 ((rd_T96 l0_5 a1).f0) ((rd_T96 l0_5 a1).f1) ((rd_T96 l0_5 a1).f2) ((rd_T96 l0_5 a1).f3))) = some r := by first | (rw [hji74] at H; exact H) | (simp only [hji74] at H ⊢; exact H)
      have hji74_ : (if (wrap64 (((rd_T96 l0_5 a1).f2) - ((rd_T96 y110 x79_2).f2))) < (wrap64 (((rd_T96 y110 x79_2).f2) - ((rd_T96 l0_5 a1).f2))) then (wrap64 (((rd_T96 y110 x79_2).f2) - ((rd_T96 l0_5 a1).f2))) else (wrap64 (((rd_T96 l0_5 a1).f2) - ((rd_T96 y110 x79_2).f2)))) = ji74 := hji74
      obtain ⟨ji75, hji75⟩ : ∃ j_ : Int, (mx (ji74) (wrap64 (((rd_T96 l0_5 a1).f3) - ((rd_T96 y110 x79_2).f3)))) = j_ := ⟨_, rfl⟩
      replace H : (if (mx (ji75) (wrap64 (((rd_T96 y110 x79_2).f3) - ((rd_T96 l0_5 a1).f3)))) < 2 then (some 15) else (floor_checkPort.l0 kj56 y110 (y110.length : Int) (wrap64 (x79_2 + 1)) a0_0 a0_1 a0_2 l0_3 l0_4 l0_5 ((rd_T96 l0_5 a1).f0) ((rd_T96 l0_5 a1).f1) ((rd_T96 l0_5 a1).f2) ((rd_T96 l0_5 a1).f3))) = some r := by first | (rw [hji75] at H; exact H) | (simp only [hji75] at H ⊢; exact H)
      have hji75_ : (if (ji74) < (wrap64 (((rd_T96 l0_5 a1).f3) - ((rd_T96 y110 x79_2).f3))) then (wrap64 (((rd_T96 l0_5 a1).f3) - ((rd_T96 y110 x79_2).f3))) else (ji74)) = ji75 := hji75
      obtain ⟨ji76, hji76⟩ : ∃ j_ : Int, (mx (ji75) (wrap64 (((rd_T96 y110 x79_2).f3) - ((rd_T96 l0_5 a1).f3)))) = j_ := ⟨_, rfl⟩
      replace H : (if (ji76) < 2 then (some 15) else (floor_checkPort.l0 kj56 y110 (y110.length : Int) (wrap64 (x79_2 + 1)) a0_0 a0_1 a0_2 l0_3 l0_4 l0_5 ((rd_T96 l0_5 a1).f0) ((rd_T96 l0_5 a1).f1) ((rd_T96 l0_5 a1).f2) ((rd_T96 l0_5 a1).f3))) = some r := by first | (rw [hji76] at H; exact H) | (simp only [hji76] at H ⊢; exact H)
      have hji76_ : (if (ji75) < (wrap64 (((rd_T96 y110 x79_2).f3) - ((rd_T96 l0_5 a1).f3))) then (wrap64 (((rd_T96 y110 x79_2).f3) - ((rd_T96 l0_5 a1).f3))) else (ji75)) = ji76 := hji76
      by_cases c77 : (ji76) < 2
      · rw [if_pos c77] at H
        have c77b0 : decide ((ji76) < 2) = true := decide_eq_true c77
        clear c77
        obtain rfl := Option.some.inj H
        have hcz80_2 : wc.cell? ⟨gb104, 2, none⟩ = some (.int .i64 ((rd_T96 l0_5 a1).f2)) := (blk_cell BK104.out 2).trans rfl
        have hcz80_3 : wc.cell? ⟨gb104, 3, none⟩ = some (.int .i64 ((rd_T96 l0_5 a1).f3)) := (blk_cell BK104.out 3).trans rfl
        have hcz82_2 : wc.cell? ⟨gb115, 2, none⟩ = some (.int .i64 ((rd_T96 y110 x79_2).f2)) := (blk_cell BK115.out 2).trans rfl
        have hcz82_3 : wc.cell? ⟨gb115, 3, none⟩ = some (.int .i64 ((rd_T96 y110 x79_2).f3)) := (blk_cell BK115.out 3).trans rfl
        go_wp2
        go_ret
        exact ⟨by first | rfl | (simp [errW_none, errW_some] <;> rfl) | (simp only [← hji74, ← hji75, ← hji76]; first | rfl | (simp [errW_none, errW_some] <;> rfl)) | (simp [*, errW_none, errW_some] <;> rfl), by repeat (first | (with_reducible first | exact HB.out | apply below_alloc | apply pw_below_drewN | apply below_drew1 | refine below_set ?_ GE102.out | refine below_set ?_ GE104.out | refine below_set ?_ GE115.out) | exact HB.out)⟩
      rw [if_neg c77] at H
      have c77b0 : decide ((ji76) < 2) = false := decide_eq_false c77
      clear c77
      have H' := Aside0.mk H
      clear H
      have hcz85_2 : wc.cell? ⟨gb104, 2, none⟩ = some (.int .i64 ((rd_T96 l0_5 a1).f2)) := (blk_cell BK104.out 2).trans rfl
      have hcz85_3 : wc.cell? ⟨gb104, 3, none⟩ = some (.int .i64 ((rd_T96 l0_5 a1).f3)) := (blk_cell BK104.out 3).trans rfl
      have hcz87_2 : wc.cell? ⟨gb115, 2, none⟩ = some (.int .i64 ((rd_T96 y110 x79_2).f2)) := (blk_cell BK115.out 2).trans rfl
      have hcz87_3 : wc.cell? ⟨gb115, 3, none⟩ = some (.int .i64 ((rd_T96 y110 x79_2).f3)) := (blk_cell BK115.out 3).trans rfl
      go_wp2
      go_roundg kj56
      case measure => have := HJ5.out; have := HK2.out; have := HJ56.out; omega
      case rel => exact ⟨(wrap64 (x79_2 + 1)), (by first | rfl | (simp; done) | (simp [*]; done)), H', ⟨by have := HJ5.out; have := HK2.out; have := HJ56.out; omega⟩, ⟨by (with_reducible repeat (first | refine blk_drewN ?_ _ | refine blk_drew ?_ | refine blk_alloc ?_ _)); exact BK102.out⟩, ⟨by (with_reducible repeat (first | refine blk_drewN ?_ _ | refine blk_drew ?_ | refine blk_alloc ?_ _)); exact BK104.out⟩, ⟨by repeat (first | (with_reducible first | exact HB.out | apply below_alloc | apply pw_below_drewN | apply below_drew1 | refine below_set ?_ GE102.out | refine below_set ?_ GE104.out | refine below_set ?_ GE115.out) | exact HB.out)⟩⟩
   rw [if_neg c54] at H
   have c54b0 : decide (x79_2 < (y110.length : Int)) = false := decide_eq_false c54
   clear c54
   have H' := Aside0.mk H
   clear H
   have hcz89_0 : wr.cell? ⟨gb102, 0, none⟩ = some (.int .i64 a0_0) := (blk_cell BK102.out 0).trans rfl
   have hcz89_1 : wr.cell? ⟨gb102, 1, none⟩ = some (.int .i64 a0_1) := (blk_cell BK102.out 1).trans rfl
   have hcz89_2 : wr.cell? ⟨gb102, 2, none⟩ = some (.int .i64 a0_2) := (blk_cell BK102.out 2).trans rfl
   have hcz89_3 : wr.cell? ⟨gb102, 3, none⟩ = some (.slice A0_3 l0_3.length c0_3) := (blk_cell BK102.out 3).trans rfl
   have hcz89_4 : wr.cell? ⟨gb102, 4, none⟩ = some (.slice A0_4 l0_4.length c0_4) := (blk_cell BK102.out 4).trans rfl
   have hcz89_5 : wr.cell? ⟨gb102, 5, none⟩ = some (.slice (some ad103) l0_5.length c0_5) := (blk_cell BK102.out 5).trans rfl
   have hfz89_0 := blk_frozen BK102.out 0
   have hfz89_1 := blk_frozen BK102.out 1
   have hfz89_2 := blk_frozen BK102.out 2
   have hfz89_3 := blk_frozen BK102.out 3
   have hfz89_4 := blk_frozen BK102.out 4
   have hfz89_5 := blk_frozen BK102.out 5
   go_wp2
   go_loopg [121] k2 (fun kq v121 w' => ∃ (x121_3 : Int), v121 = .int .i64 x121_3 ∧ Aside0 (floor_checkPort.l1 kq l0_4 (l0_4.length : Int) x121_3 ((rd_T96 l0_5 a1).f0) ((rd_T96 l0_5 a1).f1) ((rd_T96 l0_5 a1).f2) ((rd_T96 l0_5 a1).f3) = some r) ∧ Aside0 (kq ≤ k2) ∧ Aside0 (w'.heap[gb102]? = some (.cells #[.int .i64 a0_0, .int .i64 a0_1, .int .i64 a0_2, (.slice A0_3 l0_3.length c0_3), (.slice A0_4 l0_4.length c0_4), (.slice (some ad103) l0_5.length c0_5)] 57 (0, 0))) ∧ Aside0 (w'.heap[gb104]? = some (.cells #[.string ((rd_T96 l0_5 a1).f0), .bool ((rd_T96 l0_5 a1).f1), .int .i64 ((rd_T96 l0_5 a1).f2), .int .i64 ((rd_T96 l0_5 a1).f3)] 96 (0, 0))) ∧ Aside0 (Below w.heap.size w w'))
   case atStart => exact ⟨(0), (by first | rfl | (simp; done) | (simp [*]; done)), H', ⟨Nat.le_refl _⟩, ⟨by (with_reducible repeat (first | refine blk_drewN ?_ _ | refine blk_drew ?_ | refine blk_alloc ?_ _)); exact BK102.out⟩, ⟨by (with_reducible repeat (first | refine blk_drewN ?_ _ | refine blk_drew ?_ | refine blk_alloc ?_ _)); exact BK104.out⟩, ⟨by repeat (first | (with_reducible first | exact HB.out | apply below_alloc | apply pw_below_drewN | apply below_drew1 | refine below_set ?_ GE102.out | refine below_set ?_ GE104.out) | exact HB.out)⟩⟩
   clear H'
   clear c54b0 hcz89_0 hcz89_1 hcz89_2 hcz89_3 hcz89_4 hcz89_5 hfz89_0 hfz89_1 hfz89_2 hfz89_3 hfz89_4 hfz89_5
   obtain ⟨x121_3, rfl, HA, HK3, BK102, BK104, HB⟩ := hrel
   cases gk with
   | zero => exact absurd HA.out (by simp [floor_checkPort.l1])
   | succ k3 =>
    have H := HA.out
    clear HA
    simp only [floor_checkPort.l1] at H
    by_cases c90 : x121_3 < (l0_4.length : Int)
    rotate_left
    · rw [if_neg c90] at H
      have c90b0 : decide (x121_3 < (l0_4.length : Int)) = false := decide_eq_false c90
      clear c90
      obtain rfl := Option.some.inj H
      go_wp2
      go_ret
      exact ⟨by first | rfl | (simp [errW_none, errW_some] <;> rfl) | (simp [*, errW_none, errW_some] <;> rfl), by repeat (first | (with_reducible first | exact HB.out | apply below_alloc | apply pw_below_drewN | apply below_drew1 | refine below_set ?_ GE102.out | refine below_set ?_ GE104.out) | exact HB.out)⟩
    rw [if_pos c90] at H
    have c90b0 : decide (x121_3 < (l0_4.length : Int)) = true := decide_eq_true c90
    clear c90
    by_cases c91 : 0 ≤ x121_3
    rotate_left
    · rw [if_neg c91] at H
      exact absurd H (by simp)
    rw [if_pos c91] at H
    have c91b0 : decide (0 ≤ x121_3) = true := decide_eq_true c91
    clear c91
    by_cases c92 : x121_3 < (l0_4.length : Int)
    rotate_left
    · rw [if_neg c92] at H
      exact absurd H (by simp)
    rw [if_pos c92] at H
    have c92b0 : decide (x121_3 < (l0_4.length : Int)) = true := decide_eq_true c92
    clear c92
    by_cases c93 : ((rd_T100 l0_4 x121_3).f0) = 0
    rotate_left
    · rw [if_neg c93] at H
      have c93b0 : (((rd_T100 l0_4 x121_3).f0) == 0) = false := beq_eq_false_iff_ne.mpr c93
      have H' := Aside0.mk H
      clear H
      have p116 : 0 ≤ (x121_3 : Int) := of_decide_eq_true (by first | (with_reducible assumption) | assumption)
      have q116 : x121_3 < (l0_4.length : Int) := of_decide_eq_true (by first | (with_reducible assumption) | assumption)
      obtain ⟨ad116, e116, hx116_0, hx116_1, hx116_2, hx116_3, hx116_4⟩ := at_T100 HR0_4.out x121_3 p116 q116
      cases e116
      replace hx116_0 := (HB.out.cell (World.block_lt_of_cell? w _ hx116_0)).trans hx116_0
      replace hx116_1 := (HB.out.cell (World.block_lt_of_cell? w _ hx116_1)).trans hx116_1
      replace hx116_2 := (HB.out.cell (World.block_lt_of_cell? w _ hx116_2)).trans hx116_2
      replace hx116_3 := (HB.out.cell (World.block_lt_of_cell? w _ hx116_3)).trans hx116_3
      replace hx116_4 := (HB.out.cell (World.block_lt_of_cell? w _ hx116_4)).trans hx116_4
      replace p116 := eq_true p116
      replace q116 := eq_true q116
      go_wp2_with ((with_reducible refine gate_dst (N := 11) rfl ?_); refine box_event ?hg (N := 11) ?hd (cs := #[.int .i64 0, .int .i64 0, .int .i64 0, .int .i64 0, .int .i64 0]) (t := 100) ?hr ?_; (case hd => rfl); (case hg => rfl); (case hr => first | (go_simp; done) | (go_simp; rfl)); intro gb117 hg w116 hbox hb; have n0_ := Aside0.mk (blk_below (g := gb102) (o := .cells #[.int .i64 a0_0, .int .i64 a0_1, .int .i64 a0_2, .slice A0_3 l0_3.length c0_3, .slice (some ad116) l0_4.length c0_4, .slice (some ad103) l0_5.length c0_5] 57 (0, 0)) (by (with_reducible repeat (first | refine blk_drewN ?_ _ | refine blk_drew ?_ | refine blk_alloc ?_ _)); exact BK102.out) hb); have n1_ := Aside0.mk (blk_below (g := gb104) (o := .cells #[.string ((rd_T96 l0_5 a1).f0), .bool ((rd_T96 l0_5 a1).f1), .int .i64 ((rd_T96 l0_5 a1).f2), .int .i64 ((rd_T96 l0_5 a1).f3)] 96 (0, 0)) (by (with_reducible repeat (first | refine blk_drewN ?_ _ | refine blk_drew ?_ | refine blk_alloc ?_ _)); exact BK104.out) hb); have n2_ := Aside0.mk (below_step (by repeat (first | (with_reducible first | exact HB.out | apply below_alloc | apply pw_below_drewN | apply below_drew1 | refine below_set ?_ GE102.out | refine below_set ?_ GE104.out) | exact HB.out)) hb); have n3_ := Aside0.mk (hbox); have n4_ := Aside0.mk ((by rw [hg]; exact (below_size (by repeat (first | (with_reducible first | exact HB.out | apply below_alloc | apply pw_below_drewN | apply below_drew1 | refine below_set ?_ GE102.out | refine below_set ?_ GE104.out) | exact HB.out))) : w.heap.size ≤ gb117)); have n5_ := Aside0.mk ((by rw [hg]; exact (below_size (by repeat (first | (with_reducible first | exact HB.out | apply below_alloc | apply pw_below_drewN | apply below_drew1 | refine below_set ?_ GE102.out | refine below_set ?_ GE104.out) | exact HB.out))) : w.heap.size ≤ gb117)); have n6_ := Aside0.mk ((by rw [hg]; exact Nat.ne_of_lt (blk_lt (g := gb102) (o := .cells #[.int .i64 a0_0, .int .i64 a0_1, .int .i64 a0_2, .slice A0_3 l0_3.length c0_3, .slice (some ad116) l0_4.length c0_4, .slice (some ad103) l0_5.length c0_5] 57 (0, 0)) (by (with_reducible repeat (first | refine blk_drewN ?_ _ | refine blk_drew ?_ | refine blk_alloc ?_ _)); exact BK102.out)) : gb102 ≠ gb117)); have n7_ := Aside0.mk ((by rw [hg]; exact Nat.ne_of_gt (blk_lt (g := gb102) (o := .cells #[.int .i64 a0_0, .int .i64 a0_1, .int .i64 a0_2, .slice A0_3 l0_3.length c0_3, .slice (some ad116) l0_4.length c0_4, .slice (some ad103) l0_5.length c0_5] 57 (0, 0)) (by (with_reducible repeat (first | refine blk_drewN ?_ _ | refine blk_drew ?_ | refine blk_alloc ?_ _)); exact BK102.out)) : gb117 ≠ gb102)); have n8_ := Aside0.mk ((by rw [hg]; exact Nat.ne_of_lt (blk_lt (g := gb104) (o := .cells #[.string ((rd_T96 l0_5 a1).f0), .bool ((rd_T96 l0_5 a1).f1), .int .i64 ((rd_T96 l0_5 a1).f2), .int .i64 ((rd_T96 l0_5 a1).f3)] 96 (0, 0)) (by (with_reducible repeat (first | refine blk_drewN ?_ _ | refine blk_drew ?_ | refine blk_alloc ?_ _)); exact BK104.out)) : gb104 ≠ gb117)); have n9_ := Aside0.mk ((by rw [hg]; exact Nat.ne_of_gt (blk_lt (g := gb104) (o := .cells #[.string ((rd_T96 l0_5 a1).f0), .bool ((rd_T96 l0_5 a1).f1), .int .i64 ((rd_T96 l0_5 a1).f2), .int .i64 ((rd_T96 l0_5 a1).f3)] 96 (0, 0)) (by (with_reducible repeat (first | refine blk_drewN ?_ _ | refine blk_drew ?_ | refine blk_alloc ?_ _)); exact BK104.out)) : gb117 ≠ gb104)); clear BK102; clear BK104; clear HB; have BK102 := n0_; have BK104 := n1_; have HB := n2_; have BK117 := n3_; have GE117 := n5_; have NB102_117 := n6_; have NB117_102 := n7_; have NB104_117 := n8_; have NB117_104 := n9_; clear n0_ n1_ n2_ n3_ n4_ n5_ n6_ n7_ n8_ n9_; clear hb hbox hg; have hcz119_0 : w116.cell? ⟨gb117, 0, none⟩ = some (.int .i64 0) := (blk_cell BK117.out 0).trans rfl; have hcz119_1 : w116.cell? ⟨gb117, 1, none⟩ = some (.int .i64 0) := (blk_cell BK117.out 1).trans rfl; have hcz119_2 : w116.cell? ⟨gb117, 2, none⟩ = some (.int .i64 0) := (blk_cell BK117.out 2).trans rfl; have hcz119_3 : w116.cell? ⟨gb117, 3, none⟩ = some (.int .i64 0) := (blk_cell BK117.out 3).trans rfl; have hcz119_4 : w116.cell? ⟨gb117, 4, none⟩ = some (.int .i64 0) := (blk_cell BK117.out 4).trans rfl; have hfz119_0 := blk_frozen BK117.out 0; have hfz119_1 := blk_frozen BK117.out 1; have hfz119_2 := blk_frozen BK117.out 2; have hfz119_3 := blk_frozen BK117.out 3; have hfz119_4 := blk_frozen BK117.out 4)
      go_roundg k3
      case measure => have := HJ5.out; have := HK2.out; have := HK3.out; omega
      case rel => exact ⟨(wrap64 (x121_3 + 1)), (by first | rfl | (simp; done) | (simp [*]; done)), H', ⟨by have := HJ5.out; have := HK2.out; have := HK3.out; omega⟩, ⟨by (with_reducible repeat (first | refine blk_drewN ?_ _ | refine blk_drew ?_ | refine blk_alloc ?_ _)); refine blk_far ?_ NB102_117.out _; (with_reducible repeat (first | refine blk_drewN ?_ _ | refine blk_drew ?_ | refine blk_alloc ?_ _)); refine blk_far ?_ NB102_117.out _; (with_reducible repeat (first | refine blk_drewN ?_ _ | refine blk_drew ?_ | refine blk_alloc ?_ _)); refine blk_far ?_ NB102_117.out _; (with_reducible repeat (first | refine blk_drewN ?_ _ | refine blk_drew ?_ | refine blk_alloc ?_ _)); refine blk_far ?_ NB102_117.out _; (with_reducible repeat (first | refine blk_drewN ?_ _ | refine blk_drew ?_ | refine blk_alloc ?_ _)); refine blk_far ?_ NB102_117.out _; (with_reducible repeat (first | refine blk_drewN ?_ _ | refine blk_drew ?_ | refine blk_alloc ?_ _)); exact BK102.out⟩, ⟨by (with_reducible repeat (first | refine blk_drewN ?_ _ | refine blk_drew ?_ | refine blk_alloc ?_ _)); refine blk_far ?_ NB104_117.out _; (with_reducible repeat (first | refine blk_drewN ?_ _ | refine blk_drew ?_ | refine blk_alloc ?_ _)); refine blk_far ?_ NB104_117.out _; (with_reducible repeat (first | refine blk_drewN ?_ _ | refine blk_drew ?_ | refine blk_alloc ?_ _)); refine blk_far ?_ NB104_117.out _; (with_reducible repeat (first | refine blk_drewN ?_ _ | refine blk_drew ?_ | refine blk_alloc ?_ _)); refine blk_far ?_ NB104_117.out _; (with_reducible repeat (first | refine blk_drewN ?_ _ | refine blk_drew ?_ | refine blk_alloc ?_ _)); refine blk_far ?_ NB104_117.out _; (with_reducible repeat (first | refine blk_drewN ?_ _ | refine blk_drew ?_ | refine blk_alloc ?_ _)); exact BK104.out⟩, ⟨by repeat (first | (with_reducible first | exact HB.out | apply below_alloc | apply pw_below_drewN | apply below_drew1 | refine below_set ?_ GE102.out | refine below_set ?_ GE104.out | refine below_set ?_ GE117.out) | exact HB.out)⟩⟩
    rw [if_pos c93] at H
    have c93b0 : (((rd_T100 l0_4 x121_3).f0) == 0) = true := beq_iff_eq.mpr c93
    clear c93
    replace H := Option.bind_eq_some_iff.mp H
    obtain ⟨t118, A940, H⟩ := H
    replace H : (if t118 = true then ((floor_within.f ((rd_T96 l0_5 a1).f3) ((rd_T100 l0_4 x121_3).f2) ((rd_T100 l0_4 x121_3).f4)).bind fun t119 => (if t119 = true then (some 15) else (floor_checkPort.l1 k3 l0_4 (l0_4.length : Int) (wrap64 (x121_3 + 1)) ((rd_T96 l0_5 a1).f0) ((rd_T96 l0_5 a1).f1) ((rd_T96 l0_5 a1).f2) ((rd_T96 l0_5 a1).f3)))) else (floor_checkPort.l1 k3 l0_4 (l0_4.length : Int) (wrap64 (x121_3 + 1)) ((rd_T96 l0_5 a1).f0) ((rd_T96 l0_5 a1).f1) ((rd_T96 l0_5 a1).f2) ((rd_T96 l0_5 a1).f3))) = some r := H
    have A94 := Aside0.mk A940
    clear A940
    by_cases c95 : t118 = true
    rotate_left
    · replace c95 := Bool.eq_false_iff.mpr c95
      subst c95
      have H1 : (floor_checkPort.l1 k3 l0_4 (l0_4.length : Int) (wrap64 (x121_3 + 1)) ((rd_T96 l0_5 a1).f0) ((rd_T96 l0_5 a1).f1) ((rd_T96 l0_5 a1).f2) ((rd_T96 l0_5 a1).f3)) = some r := by rw [if_neg (show ¬ (false = true) by decide)] at H; exact H
      clear H
      have H := H1
      clear H1
      have H' := Aside0.mk H
      clear H
      have p116 : 0 ≤ (x121_3 : Int) := of_decide_eq_true (by first | (with_reducible assumption) | assumption)
      have q116 : x121_3 < (l0_4.length : Int) := of_decide_eq_true (by first | (with_reducible assumption) | assumption)
      obtain ⟨ad116, e116, hx116_0, hx116_1, hx116_2, hx116_3, hx116_4⟩ := at_T100 HR0_4.out x121_3 p116 q116
      cases e116
      replace hx116_0 := (HB.out.cell (World.block_lt_of_cell? w _ hx116_0)).trans hx116_0
      replace hx116_1 := (HB.out.cell (World.block_lt_of_cell? w _ hx116_1)).trans hx116_1
      replace hx116_2 := (HB.out.cell (World.block_lt_of_cell? w _ hx116_2)).trans hx116_2
      replace hx116_3 := (HB.out.cell (World.block_lt_of_cell? w _ hx116_3)).trans hx116_3
      replace hx116_4 := (HB.out.cell (World.block_lt_of_cell? w _ hx116_4)).trans hx116_4
      replace p116 := eq_true p116
      replace q116 := eq_true q116
      go_wp2_with (first | ((with_reducible refine gate_dst (N := 11) rfl ?_); refine box_event ?hg (N := 11) ?hd (cs := #[.int .i64 0, .int .i64 0, .int .i64 0, .int .i64 0, .int .i64 0]) (t := 100) ?hr ?_; (case hd => rfl); (case hg => rfl); (case hr => first | (go_simp; done) | (go_simp; rfl)); intro gb117 hg w110 hbox hb; have n0_ := Aside0.mk (blk_below (g := gb102) (o := .cells #[.int .i64 a0_0, .int .i64 a0_1, .int .i64 a0_2, .slice A0_3 l0_3.length c0_3, .slice (some ad116) l0_4.length c0_4, .slice (some ad103) l0_5.length c0_5] 57 (0, 0)) (by (with_reducible repeat (first | refine blk_drewN ?_ _ | refine blk_drew ?_ | refine blk_alloc ?_ _)); exact BK102.out) hb); have n1_ := Aside0.mk (blk_below (g := gb104) (o := .cells #[.string ((rd_T96 l0_5 a1).f0), .bool ((rd_T96 l0_5 a1).f1), .int .i64 ((rd_T96 l0_5 a1).f2), .int .i64 ((rd_T96 l0_5 a1).f3)] 96 (0, 0)) (by (with_reducible repeat (first | refine blk_drewN ?_ _ | refine blk_drew ?_ | refine blk_alloc ?_ _)); exact BK104.out) hb); have n2_ := Aside0.mk (below_step (by repeat (first | (with_reducible first | exact HB.out | apply below_alloc | apply pw_below_drewN | apply below_drew1 | refine below_set ?_ GE102.out | refine below_set ?_ GE104.out) | exact HB.out)) hb); have n3_ := Aside0.mk (hbox); have n4_ := Aside0.mk ((by rw [hg]; exact (below_size (by repeat (first | (with_reducible first | exact HB.out | apply below_alloc | apply pw_below_drewN | apply below_drew1 | refine below_set ?_ GE102.out | refine below_set ?_ GE104.out) | exact HB.out))) : w.heap.size ≤ gb117)); have n5_ := Aside0.mk ((by rw [hg]; exact (below_size (by repeat (first | (with_reducible first | exact HB.out | apply below_alloc | apply pw_below_drewN | apply below_drew1 | refine below_set ?_ GE102.out | refine below_set ?_ GE104.out) | exact HB.out))) : w.heap.size ≤ gb117)); have n6_ := Aside0.mk ((by rw [hg]; exact Nat.ne_of_lt (blk_lt (g := gb102) (o := .cells #[.int .i64 a0_0, .int .i64 a0_1, .int .i64 a0_2, .slice A0_3 l0_3.length c0_3, .slice (some ad116) l0_4.length c0_4, .slice (some ad103) l0_5.length c0_5] 57 (0, 0)) (by (with_reducible repeat (first | refine blk_drewN ?_ _ | refine blk_drew ?_ | refine blk_alloc ?_ _)); exact BK102.out)) : gb102 ≠ gb117)); have n7_ := Aside0.mk ((by rw [hg]; exact Nat.ne_of_gt (blk_lt (g := gb102) (o := .cells #[.int .i64 a0_0, .int .i64 a0_1, .int .i64 a0_2, .slice A0_3 l0_3.length c0_3, .slice (some ad116) l0_4.length c0_4, .slice (some ad103) l0_5.length c0_5] 57 (0, 0)) (by (with_reducible repeat (first | refine blk_drewN ?_ _ | refine blk_drew ?_ | refine blk_alloc ?_ _)); exact BK102.out)) : gb117 ≠ gb102)); have n8_ := Aside0.mk ((by rw [hg]; exact Nat.ne_of_lt (blk_lt (g := gb104) (o := .cells #[.string ((rd_T96 l0_5 a1).f0), .bool ((rd_T96 l0_5 a1).f1), .int .i64 ((rd_T96 l0_5 a1).f2), .int .i64 ((rd_T96 l0_5 a1).f3)] 96 (0, 0)) (by (with_reducible repeat (first | refine blk_drewN ?_ _ | refine blk_drew ?_ | refine blk_alloc ?_ _)); exact BK104.out)) : gb104 ≠ gb117)); have n9_ := Aside0.mk ((by rw [hg]; exact Nat.ne_of_gt (blk_lt (g := gb104) (o := .cells #[.string ((rd_T96 l0_5 a1).f0), .bool ((rd_T96 l0_5 a1).f1), .int .i64 ((rd_T96 l0_5 a1).f2), .int .i64 ((rd_T96 l0_5 a1).f3)] 96 (0, 0)) (by (with_reducible repeat (first | refine blk_drewN ?_ _ | refine blk_drew ?_ | refine blk_alloc ?_ _)); exact BK104.out)) : gb117 ≠ gb104)); clear BK102; clear BK104; clear HB; have BK102 := n0_; have BK104 := n1_; have HB := n2_; have BK117 := n3_; have GE117 := n5_; have NB102_117 := n6_; have NB117_102 := n7_; have NB104_117 := n8_; have NB117_104 := n9_; clear n0_ n1_ n2_ n3_ n4_ n5_ n6_ n7_ n8_ n9_; clear hb hbox hg; have hnc112 := NB104_117.out; have hcz113_0 : w110.cell? ⟨gb117, 0, none⟩ = some (.int .i64 0) := (blk_cell BK117.out 0).trans rfl; have hcz113_1 : w110.cell? ⟨gb117, 1, none⟩ = some (.int .i64 0) := (blk_cell BK117.out 1).trans rfl; have hcz113_2 : w110.cell? ⟨gb117, 2, none⟩ = some (.int .i64 0) := (blk_cell BK117.out 2).trans rfl; have hcz113_3 : w110.cell? ⟨gb117, 3, none⟩ = some (.int .i64 0) := (blk_cell BK117.out 3).trans rfl; have hcz113_4 : w110.cell? ⟨gb117, 4, none⟩ = some (.int .i64 0) := (blk_cell BK117.out 4).trans rfl; have hfz113_0 := blk_frozen BK117.out 0; have hfz113_1 := blk_frozen BK117.out 1; have hfz113_2 := blk_frozen BK117.out 2; have hfz113_3 := blk_frozen BK117.out 3; have hfz113_4 := blk_frozen BK117.out 4; have hnb114 := NB104_102.out; have hnc114 := NB102_104.out; have hcz115_2 : w110.cell? ⟨gb104, 2, none⟩ = some (.int .i64 ((rd_T96 l0_5 a1).f2)) := (blk_cell BK104.out 2).trans rfl; have hfz115_3 := blk_frozen BK104.out 3) | (go_at_call 49; (with_reducible refine (floor_within.calls ((rd_T96 l0_5 a1).f2) ((rd_T100 l0_4 x121_3).f1) ((rd_T100 l0_4 x121_3).f3) false _ A94.out).mono ?_); rintro e w' ⟨rfl, ⟨nd, rfl⟩⟩))
      go_roundg k3
      case measure => have := HJ5.out; have := HK2.out; have := HK3.out; omega
      case rel => exact ⟨(wrap64 (x121_3 + 1)), (by first | rfl | (simp; done) | (simp [*]; done)), H', ⟨by have := HJ5.out; have := HK2.out; have := HK3.out; omega⟩, ⟨by (with_reducible repeat (first | refine blk_drewN ?_ _ | refine blk_drew ?_ | refine blk_alloc ?_ _)); refine blk_far ?_ NB102_117.out _; (with_reducible repeat (first | refine blk_drewN ?_ _ | refine blk_drew ?_ | refine blk_alloc ?_ _)); refine blk_far ?_ NB102_117.out _; (with_reducible repeat (first | refine blk_drewN ?_ _ | refine blk_drew ?_ | refine blk_alloc ?_ _)); refine blk_far ?_ NB102_117.out _; (with_reducible repeat (first | refine blk_drewN ?_ _ | refine blk_drew ?_ | refine blk_alloc ?_ _)); refine blk_far ?_ NB102_117.out _; (with_reducible repeat (first | refine blk_drewN ?_ _ | refine blk_drew ?_ | refine blk_alloc ?_ _)); refine blk_far ?_ NB102_117.out _; (with_reducible repeat (first | refine blk_drewN ?_ _ | refine blk_drew ?_ | refine blk_alloc ?_ _)); exact BK102.out⟩, ⟨by (with_reducible repeat (first | refine blk_drewN ?_ _ | refine blk_drew ?_ | refine blk_alloc ?_ _)); refine blk_far ?_ NB104_117.out _; (with_reducible repeat (first | refine blk_drewN ?_ _ | refine blk_drew ?_ | refine blk_alloc ?_ _)); refine blk_far ?_ NB104_117.out _; (with_reducible repeat (first | refine blk_drewN ?_ _ | refine blk_drew ?_ | refine blk_alloc ?_ _)); refine blk_far ?_ NB104_117.out _; (with_reducible repeat (first | refine blk_drewN ?_ _ | refine blk_drew ?_ | refine blk_alloc ?_ _)); refine blk_far ?_ NB104_117.out _; (with_reducible repeat (first | refine blk_drewN ?_ _ | refine blk_drew ?_ | refine blk_alloc ?_ _)); refine blk_far ?_ NB104_117.out _; (with_reducible repeat (first | refine blk_drewN ?_ _ | refine blk_drew ?_ | refine blk_alloc ?_ _)); exact BK104.out⟩, ⟨by repeat (first | (with_reducible first | exact HB.out | apply below_alloc | apply pw_below_drewN | apply below_drew1 | refine below_set ?_ GE102.out | refine below_set ?_ GE104.out | refine below_set ?_ GE117.out) | exact HB.out)⟩⟩
    subst c95
    have H1 : ((floor_within.f ((rd_T96 l0_5 a1).f3) ((rd_T100 l0_4 x121_3).f2) ((rd_T100 l0_4 x121_3).f4)).bind fun t119 => (if t119 = true then (some 15) else (floor_checkPort.l1 k3 l0_4 (l0_4.length : Int) (wrap64 (x121_3 + 1)) ((rd_T96 l0_5 a1).f0) ((rd_T96 l0_5 a1).f1) ((rd_T96 l0_5 a1).f2) ((rd_T96 l0_5 a1).f3)))) = some r := by rw [if_pos rfl] at H; exact H
    clear H
    have H := H1
    clear H1
    replace H := Option.bind_eq_some_iff.mp H
    obtain ⟨t119, A960, H⟩ := H
    replace H : (if t119 = true then (some 15) else (floor_checkPort.l1 k3 l0_4 (l0_4.length : Int) (wrap64 (x121_3 + 1)) ((rd_T96 l0_5 a1).f0) ((rd_T96 l0_5 a1).f1) ((rd_T96 l0_5 a1).f2) ((rd_T96 l0_5 a1).f3))) = some r := H
    have A96 := Aside0.mk A960
    clear A960
    by_cases c97 : t119 = true
    · subst c97
      have H1 : (some 15) = some r := by rw [if_pos rfl] at H; exact H
      clear H
      have H := H1
      clear H1
      obtain rfl := Option.some.inj H
      have p116 : 0 ≤ (x121_3 : Int) := of_decide_eq_true (by first | (with_reducible assumption) | assumption)
      have q116 : x121_3 < (l0_4.length : Int) := of_decide_eq_true (by first | (with_reducible assumption) | assumption)
      obtain ⟨ad116, e116, hx116_0, hx116_1, hx116_2, hx116_3, hx116_4⟩ := at_T100 HR0_4.out x121_3 p116 q116
      cases e116
      replace hx116_0 := (HB.out.cell (World.block_lt_of_cell? w _ hx116_0)).trans hx116_0
      replace hx116_1 := (HB.out.cell (World.block_lt_of_cell? w _ hx116_1)).trans hx116_1
      replace hx116_2 := (HB.out.cell (World.block_lt_of_cell? w _ hx116_2)).trans hx116_2
      replace hx116_3 := (HB.out.cell (World.block_lt_of_cell? w _ hx116_3)).trans hx116_3
      replace hx116_4 := (HB.out.cell (World.block_lt_of_cell? w _ hx116_4)).trans hx116_4
      replace p116 := eq_true p116
      replace q116 := eq_true q116
      go_wp2_with (first | ((with_reducible refine gate_dst (N := 11) rfl ?_); refine box_event ?hg (N := 11) ?hd (cs := #[.int .i64 0, .int .i64 0, .int .i64 0, .int .i64 0, .int .i64 0]) (t := 100) ?hr ?_; (case hd => rfl); (case hg => rfl); (case hr => first | (go_simp; done) | (go_simp; rfl)); intro gb117 hg w98 hbox hb; have n0_ := Aside0.mk (blk_below (g := gb102) (o := .cells #[.int .i64 a0_0, .int .i64 a0_1, .int .i64 a0_2, .slice A0_3 l0_3.length c0_3, .slice (some ad116) l0_4.length c0_4, .slice (some ad103) l0_5.length c0_5] 57 (0, 0)) (by (with_reducible repeat (first | refine blk_drewN ?_ _ | refine blk_drew ?_ | refine blk_alloc ?_ _)); exact BK102.out) hb); have n1_ := Aside0.mk (blk_below (g := gb104) (o := .cells #[.string ((rd_T96 l0_5 a1).f0), .bool ((rd_T96 l0_5 a1).f1), .int .i64 ((rd_T96 l0_5 a1).f2), .int .i64 ((rd_T96 l0_5 a1).f3)] 96 (0, 0)) (by (with_reducible repeat (first | refine blk_drewN ?_ _ | refine blk_drew ?_ | refine blk_alloc ?_ _)); exact BK104.out) hb); have n2_ := Aside0.mk (below_step (by repeat (first | (with_reducible first | exact HB.out | apply below_alloc | apply pw_below_drewN | apply below_drew1 | refine below_set ?_ GE102.out | refine below_set ?_ GE104.out) | exact HB.out)) hb); have n3_ := Aside0.mk (hbox); have n4_ := Aside0.mk ((by rw [hg]; exact (below_size (by repeat (first | (with_reducible first | exact HB.out | apply below_alloc | apply pw_below_drewN | apply below_drew1 | refine below_set ?_ GE102.out | refine below_set ?_ GE104.out) | exact HB.out))) : w.heap.size ≤ gb117)); have n5_ := Aside0.mk ((by rw [hg]; exact (below_size (by repeat (first | (with_reducible first | exact HB.out | apply below_alloc | apply pw_below_drewN | apply below_drew1 | refine below_set ?_ GE102.out | refine below_set ?_ GE104.out) | exact HB.out))) : w.heap.size ≤ gb117)); have n6_ := Aside0.mk ((by rw [hg]; exact Nat.ne_of_lt (blk_lt (g := gb102) (o := .cells #[.int .i64 a0_0, .int .i64 a0_1, .int .i64 a0_2, .slice A0_3 l0_3.length c0_3, .slice (some ad116) l0_4.length c0_4, .slice (some ad103) l0_5.length c0_5] 57 (0, 0)) (by (with_reducible repeat (first | refine blk_drewN ?_ _ | refine blk_drew ?_ | refine blk_alloc ?_ _)); exact BK102.out)) : gb102 ≠ gb117)); have n7_ := Aside0.mk ((by rw [hg]; exact Nat.ne_of_gt (blk_lt (g := gb102) (o := .cells #[.int .i64 a0_0, .int .i64 a0_1, .int .i64 a0_2, .slice A0_3 l0_3.length c0_3, .slice (some ad116) l0_4.length c0_4, .slice (some ad103) l0_5.length c0_5] 57 (0, 0)) (by (with_reducible repeat (first | refine blk_drewN ?_ _ | refine blk_drew ?_ | refine blk_alloc ?_ _)); exact BK102.out)) : gb117 ≠ gb102)); have n8_ := Aside0.mk ((by rw [hg]; exact Nat.ne_of_lt (blk_lt (g := gb104) (o := .cells #[.string ((rd_T96 l0_5 a1).f0), .bool ((rd_T96 l0_5 a1).f1), .int .i64 ((rd_T96 l0_5 a1).f2), .int .i64 ((rd_T96 l0_5 a1).f3)] 96 (0, 0)) (by (with_reducible repeat (first | refine blk_drewN ?_ _ | refine blk_drew ?_ | refine blk_alloc ?_ _)); exact BK104.out)) : gb104 ≠ gb117)); have n9_ := Aside0.mk ((by rw [hg]; exact Nat.ne_of_gt (blk_lt (g := gb104) (o := .cells #[.string ((rd_T96 l0_5 a1).f0), .bool ((rd_T96 l0_5 a1).f1), .int .i64 ((rd_T96 l0_5 a1).f2), .int .i64 ((rd_T96 l0_5 a1).f3)] 96 (0, 0)) (by (with_reducible repeat (first | refine blk_drewN ?_ _ | refine blk_drew ?_ | refine blk_alloc ?_ _)); exact BK104.out)) : gb117 ≠ gb104)); clear BK102; clear BK104; clear HB; have BK104 := n1_; have HB := n2_; have BK117 := n3_; have GE117 := n5_; have NB102_117 := n6_; have NB117_102 := n7_; have NB104_117 := n8_; have NB117_104 := n9_; clear n0_ n1_ n2_ n3_ n4_ n5_ n6_ n7_ n8_ n9_; clear hb hbox hg; have hnc100 := NB104_117.out; have hcz101_0 : w98.cell? ⟨gb117, 0, none⟩ = some (.int .i64 0) := (blk_cell BK117.out 0).trans rfl; have hcz101_1 : w98.cell? ⟨gb117, 1, none⟩ = some (.int .i64 0) := (blk_cell BK117.out 1).trans rfl; have hcz101_2 : w98.cell? ⟨gb117, 2, none⟩ = some (.int .i64 0) := (blk_cell BK117.out 2).trans rfl; have hcz101_3 : w98.cell? ⟨gb117, 3, none⟩ = some (.int .i64 0) := (blk_cell BK117.out 3).trans rfl; have hcz101_4 : w98.cell? ⟨gb117, 4, none⟩ = some (.int .i64 0) := (blk_cell BK117.out 4).trans rfl; have hfz101_0 := blk_frozen BK117.out 0; have hfz101_1 := blk_frozen BK117.out 1; have hfz101_2 := blk_frozen BK117.out 2; have hfz101_3 := blk_frozen BK117.out 3; have hfz101_4 := blk_frozen BK117.out 4; have hnb102 := NB104_102.out; have hnc102 := NB102_104.out; have hcz103_2 : w98.cell? ⟨gb104, 2, none⟩ = some (.int .i64 ((rd_T96 l0_5 a1).f2)) := (blk_cell BK104.out 2).trans rfl; have hcz103_3 : w98.cell? ⟨gb104, 3, none⟩ = some (.int .i64 ((rd_T96 l0_5 a1).f3)) := (blk_cell BK104.out 3).trans rfl; have hfz103_3 := blk_frozen BK104.out 3) | (go_at_call 49; (with_reducible refine (floor_within.calls ((rd_T96 l0_5 a1).f2) ((rd_T100 l0_4 x121_3).f1) ((rd_T100 l0_4 x121_3).f3) true _ A94.out).mono ?_); rintro e w' ⟨rfl, ⟨nd, rfl⟩⟩) | (go_at_call 49; (with_reducible refine (floor_within.calls ((rd_T96 l0_5 a1).f3) ((rd_T100 l0_4 x121_3).f2) ((rd_T100 l0_4 x121_3).f4) true _ A96.out).mono ?_); rintro e w' ⟨rfl, ⟨nd, rfl⟩⟩))
      go_ret
      exact ⟨by first | rfl | (simp [errW_none, errW_some] <;> rfl) | (simp [*, errW_none, errW_some] <;> rfl), by repeat (first | (with_reducible first | exact HB.out | apply below_alloc | apply pw_below_drewN | apply below_drew1 | refine below_set ?_ GE102.out | refine below_set ?_ GE104.out | refine below_set ?_ GE117.out) | exact HB.out)⟩
    replace c97 := Bool.eq_false_iff.mpr c97
    subst c97
    have H1 : (floor_checkPort.l1 k3 l0_4 (l0_4.length : Int) (wrap64 (x121_3 + 1)) ((rd_T96 l0_5 a1).f0) ((rd_T96 l0_5 a1).f1) ((rd_T96 l0_5 a1).f2) ((rd_T96 l0_5 a1).f3)) = some r := by rw [if_neg (show ¬ (false = true) by decide)] at H; exact H
    clear H
    have H := H1
    clear H1
    have H' := Aside0.mk H
    clear H
    have p116 : 0 ≤ (x121_3 : Int) := of_decide_eq_true (by first | (with_reducible assumption) | assumption)
    have q116 : x121_3 < (l0_4.length : Int) := of_decide_eq_true (by first | (with_reducible assumption) | assumption)
    obtain ⟨ad116, e116, hx116_0, hx116_1, hx116_2, hx116_3, hx116_4⟩ := at_T100 HR0_4.out x121_3 p116 q116
    cases e116
    replace hx116_0 := (HB.out.cell (World.block_lt_of_cell? w _ hx116_0)).trans hx116_0
    replace hx116_1 := (HB.out.cell (World.block_lt_of_cell? w _ hx116_1)).trans hx116_1
    replace hx116_2 := (HB.out.cell (World.block_lt_of_cell? w _ hx116_2)).trans hx116_2
    replace hx116_3 := (HB.out.cell (World.block_lt_of_cell? w _ hx116_3)).trans hx116_3
    replace hx116_4 := (HB.out.cell (World.block_lt_of_cell? w _ hx116_4)).trans hx116_4
    replace p116 := eq_true p116
    replace q116 := eq_true q116
    go_wp2_with (first | ((with_reducible refine gate_dst (N := 11) rfl ?_); refine box_event ?hg (N := 11) ?hd (cs := #[.int .i64 0, .int .i64 0, .int .i64 0, .int .i64 0, .int .i64 0]) (t := 100) ?hr ?_; (case hd => rfl); (case hg => rfl); (case hr => first | (go_simp; done) | (go_simp; rfl)); intro gb117 hg w104 hbox hb; have n0_ := Aside0.mk (blk_below (g := gb102) (o := .cells #[.int .i64 a0_0, .int .i64 a0_1, .int .i64 a0_2, .slice A0_3 l0_3.length c0_3, .slice (some ad116) l0_4.length c0_4, .slice (some ad103) l0_5.length c0_5] 57 (0, 0)) (by (with_reducible repeat (first | refine blk_drewN ?_ _ | refine blk_drew ?_ | refine blk_alloc ?_ _)); exact BK102.out) hb); have n1_ := Aside0.mk (blk_below (g := gb104) (o := .cells #[.string ((rd_T96 l0_5 a1).f0), .bool ((rd_T96 l0_5 a1).f1), .int .i64 ((rd_T96 l0_5 a1).f2), .int .i64 ((rd_T96 l0_5 a1).f3)] 96 (0, 0)) (by (with_reducible repeat (first | refine blk_drewN ?_ _ | refine blk_drew ?_ | refine blk_alloc ?_ _)); exact BK104.out) hb); have n2_ := Aside0.mk (below_step (by repeat (first | (with_reducible first | exact HB.out | apply below_alloc | apply pw_below_drewN | apply below_drew1 | refine below_set ?_ GE102.out | refine below_set ?_ GE104.out) | exact HB.out)) hb); have n3_ := Aside0.mk (hbox); have n4_ := Aside0.mk ((by rw [hg]; exact (below_size (by repeat (first | (with_reducible first | exact HB.out | apply below_alloc | apply pw_below_drewN | apply below_drew1 | refine below_set ?_ GE102.out | refine below_set ?_ GE104.out) | exact HB.out))) : w.heap.size ≤ gb117)); have n5_ := Aside0.mk ((by rw [hg]; exact (below_size (by repeat (first | (with_reducible first | exact HB.out | apply below_alloc | apply pw_below_drewN | apply below_drew1 | refine below_set ?_ GE102.out | refine below_set ?_ GE104.out) | exact HB.out))) : w.heap.size ≤ gb117)); have n6_ := Aside0.mk ((by rw [hg]; exact Nat.ne_of_lt (blk_lt (g := gb102) (o := .cells #[.int .i64 a0_0, .int .i64 a0_1, .int .i64 a0_2, .slice A0_3 l0_3.length c0_3, .slice (some ad116) l0_4.length c0_4, .slice (some ad103) l0_5.length c0_5] 57 (0, 0)) (by (with_reducible repeat (first | refine blk_drewN ?_ _ | refine blk_drew ?_ | refine blk_alloc ?_ _)); exact BK102.out)) : gb102 ≠ gb117)); have n7_ := Aside0.mk ((by rw [hg]; exact Nat.ne_of_gt (blk_lt (g := gb102) (o := .cells #[.int .i64 a0_0, .int .i64 a0_1, .int .i64 a0_2, .slice A0_3 l0_3.length c0_3, .slice (some ad116) l0_4.length c0_4, .slice (some ad103) l0_5.length c0_5] 57 (0, 0)) (by (with_reducible repeat (first | refine blk_drewN ?_ _ | refine blk_drew ?_ | refine blk_alloc ?_ _)); exact BK102.out)) : gb117 ≠ gb102)); have n8_ := Aside0.mk ((by rw [hg]; exact Nat.ne_of_lt (blk_lt (g := gb104) (o := .cells #[.string ((rd_T96 l0_5 a1).f0), .bool ((rd_T96 l0_5 a1).f1), .int .i64 ((rd_T96 l0_5 a1).f2), .int .i64 ((rd_T96 l0_5 a1).f3)] 96 (0, 0)) (by (with_reducible repeat (first | refine blk_drewN ?_ _ | refine blk_drew ?_ | refine blk_alloc ?_ _)); exact BK104.out)) : gb104 ≠ gb117)); have n9_ := Aside0.mk ((by rw [hg]; exact Nat.ne_of_gt (blk_lt (g := gb104) (o := .cells #[.string ((rd_T96 l0_5 a1).f0), .bool ((rd_T96 l0_5 a1).f1), .int .i64 ((rd_T96 l0_5 a1).f2), .int .i64 ((rd_T96 l0_5 a1).f3)] 96 (0, 0)) (by (with_reducible repeat (first | refine blk_drewN ?_ _ | refine blk_drew ?_ | refine blk_alloc ?_ _)); exact BK104.out)) : gb117 ≠ gb104)); clear BK102; clear BK104; clear HB; have BK102 := n0_; have BK104 := n1_; have HB := n2_; have BK117 := n3_; have GE117 := n5_; have NB102_117 := n6_; have NB117_102 := n7_; have NB104_117 := n8_; have NB117_104 := n9_; clear n0_ n1_ n2_ n3_ n4_ n5_ n6_ n7_ n8_ n9_; clear hb hbox hg; have hnc106 := NB104_117.out; have hcz107_0 : w104.cell? ⟨gb117, 0, none⟩ = some (.int .i64 0) := (blk_cell BK117.out 0).trans rfl; have hcz107_1 : w104.cell? ⟨gb117, 1, none⟩ = some (.int .i64 0) := (blk_cell BK117.out 1).trans rfl; have hcz107_2 : w104.cell? ⟨gb117, 2, none⟩ = some (.int .i64 0) := (blk_cell BK117.out 2).trans rfl; have hcz107_3 : w104.cell? ⟨gb117, 3, none⟩ = some (.int .i64 0) := (blk_cell BK117.out 3).trans rfl; have hcz107_4 : w104.cell? ⟨gb117, 4, none⟩ = some (.int .i64 0) := (blk_cell BK117.out 4).trans rfl; have hfz107_0 := blk_frozen BK117.out 0; have hfz107_1 := blk_frozen BK117.out 1; have hfz107_2 := blk_frozen BK117.out 2; have hfz107_3 := blk_frozen BK117.out 3; have hfz107_4 := blk_frozen BK117.out 4; have hnb108 := NB104_102.out; have hnc108 := NB102_104.out; have hcz109_2 : w104.cell? ⟨gb104, 2, none⟩ = some (.int .i64 ((rd_T96 l0_5 a1).f2)) := (blk_cell BK104.out 2).trans rfl; have hcz109_3 : w104.cell? ⟨gb104, 3, none⟩ = some (.int .i64 ((rd_T96 l0_5 a1).f3)) := (blk_cell BK104.out 3).trans rfl; have hfz109_3 := blk_frozen BK104.out 3) | (go_at_call 49; (with_reducible refine (floor_within.calls ((rd_T96 l0_5 a1).f2) ((rd_T100 l0_4 x121_3).f1) ((rd_T100 l0_4 x121_3).f3) true _ A94.out).mono ?_); rintro e w' ⟨rfl, ⟨nd, rfl⟩⟩) | (go_at_call 49; (with_reducible refine (floor_within.calls ((rd_T96 l0_5 a1).f3) ((rd_T100 l0_4 x121_3).f2) ((rd_T100 l0_4 x121_3).f4) false _ A96.out).mono ?_); rintro e w' ⟨rfl, ⟨nd, rfl⟩⟩))
    go_roundg k3
    case measure => have := HJ5.out; have := HK2.out; have := HK3.out; omega
    case rel => exact ⟨(wrap64 (x121_3 + 1)), (by first | rfl | (simp; done) | (simp [*]; done)), H', ⟨by have := HJ5.out; have := HK2.out; have := HK3.out; omega⟩, ⟨by (with_reducible repeat (first | refine blk_drewN ?_ _ | refine blk_drew ?_ | refine blk_alloc ?_ _)); refine blk_far ?_ NB102_117.out _; (with_reducible repeat (first | refine blk_drewN ?_ _ | refine blk_drew ?_ | refine blk_alloc ?_ _)); refine blk_far ?_ NB102_117.out _; (with_reducible repeat (first | refine blk_drewN ?_ _ | refine blk_drew ?_ | refine blk_alloc ?_ _)); refine blk_far ?_ NB102_117.out _; (with_reducible repeat (first | refine blk_drewN ?_ _ | refine blk_drew ?_ | refine blk_alloc ?_ _)); refine blk_far ?_ NB102_117.out _; (with_reducible repeat (first | refine blk_drewN ?_ _ | refine blk_drew ?_ | refine blk_alloc ?_ _)); refine blk_far ?_ NB102_117.out _; (with_reducible repeat (first | refine blk_drewN ?_ _ | refine blk_drew ?_ | refine blk_alloc ?_ _)); exact BK102.out⟩, ⟨by (with_reducible repeat (first | refine blk_drewN ?_ _ | refine blk_drew ?_ | refine blk_alloc ?_ _)); refine blk_far ?_ NB104_117.out _; (with_reducible repeat (first | refine blk_drewN ?_ _ | refine blk_drew ?_ | refine blk_alloc ?_ _)); refine blk_far ?_ NB104_117.out _; (with_reducible repeat (first | refine blk_drewN ?_ _ | refine blk_drew ?_ | refine blk_alloc ?_ _)); refine blk_far ?_ NB104_117.out _; (with_reducible repeat (first | refine blk_drewN ?_ _ | refine blk_drew ?_ | refine blk_alloc ?_ _)); refine blk_far ?_ NB104_117.out _; (with_reducible repeat (first | refine blk_drewN ?_ _ | refine blk_drew ?_ | refine blk_alloc ?_ _)); refine blk_far ?_ NB104_117.out _; (with_reducible repeat (first | refine blk_drewN ?_ _ | refine blk_drew ?_ | refine blk_alloc ?_ _)); exact BK104.out⟩, ⟨by repeat (first | (with_reducible first | exact HB.out | apply below_alloc | apply pw_below_drewN | apply below_drew1 | refine below_set ?_ GE102.out | refine below_set ?_ GE104.out | refine below_set ?_ GE117.out) | exact HB.out)⟩⟩

end Go.Proofs.Ytgajgnemfccnhaa.PL
