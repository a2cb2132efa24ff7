-- PRINTED by print.py (a twelfth state) out of the translation. Not trusted: Lean checks it.
import Derived.Test.YtgajgnemfccnhaaPLx0
import Derived.Test.YtgajgnemfccnhaaPLx5
namespace Go.Proofs.Ytgajgnemfccnhaa.PL
open Go.RowKit Go.Proofs.YtgajgnemfccnhaaW.PrintWords Go.Proofs.YtgajgnemfccnhaaW.PrintLast Go.Proofs.YtgajgnemfccnhaaW.PrintMore
attribute [local go_sem] max2_int min2_int max_two min_two max_three min_three max_four min_four   -- for this text's walks alone
set_option linter.unusedVariables false
set_option linter.unusedSimpArgs false

/-! ### legal_Check: function 36 -/
mutual
def legal_Check.l0 : Nat → List Int → List (S47) → List (List Bool) → Int → Int → Int → Int → Int → List (S98) → List (S100) → List (S96) → Option (Int)
 | 0, _, _, _, _, _, _, _, _, _, _, _ => none
 | k + 1, x1, x2, x8, x33, x34, x217000, x217001, x217002, x217003, x217004, x217005 => if x34 < x33 then (if 0 ≤ x217001 then (if (x217001 : Int).toNat ≤ 281474976710656 then (if 0 ≤ x34 then (if x34 < (x8.length : Int) then (legal_Check.l0 k x1 x2 (x8.set (x34 : Int).toNat (List.replicate (x217001 : Int).toNat false)) x33 (wrap64 (x34 + 1)) x217000 x217001 x217002 x217003 x217004 x217005) else (none)) else (none)) else (none)) else (none)) else (legal_Check.l1 k x1 x2 x8 x217003 (x217003.length : Int) 0 x217000 x217001 x217002 x217003 x217004 x217005)
def legal_Check.l1 : Nat → List Int → List (S47) → List (List Bool) → List (S98) → Int → Int → Int → Int → Int → List (S98) → List (S100) → List (S96) → Option (Int)
 | 0, _, _, _, _, _, _, _, _, _, _, _, _ => none
 | k + 1, x1, x2, x8, x45, x46, x47, x217000, x217001, x217002, x217003, x217004, x217005 => if x47 < x46 then (if 0 ≤ x47 then (if x47 < (x45.length : Int) then (legal_Check.l2 k x1 x2 x8 ((rd_T98 x45 x47).f1) x45 x46 x47 x217000 x217001 x217002 x217003 x217004 x217005 ((rd_T98 x45 x47).f0) ((rd_T98 x45 x47).f1) ((rd_T98 x45 x47).f2)) else (none)) else (none)) else (legal_Check.l3 k x1 x8 x2 (x2.length : Int) 0 x217000 x217001 x217002 x217003 x217004 x217005)
def legal_Check.l2 : Nat → List Int → List (S47) → List (List Bool) → Int → List (S98) → Int → Int → Int → Int → Int → List (S98) → List (S100) → List (S96) → Int → Int → Int → Option (Int)
 | 0, _, _, _, _, _, _, _, _, _, _, _, _, _, _, _, _ => none
 | k + 1, x1, x2, x8, x12, x45, x46, x47, x217000, x217001, x217002, x217003, x217004, x217005, x227000, x227001, x227002 => if x12 < x227002 then (if 0 ≤ x227000 then (if x227000 < (x8.length : Int) then (if 0 ≤ x12 then (if x12 < ((rd_L7 x8 x227000).length : Int) then (legal_Check.l2 k x1 x2 (x8.set (x227000 : Int).toNat ((rd_L7 x8 x227000).set (x12 : Int).toNat true)) (wrap64 (x12 + 1)) x45 x46 x47 x217000 x217001 x217002 x217003 x217004 x217005 x227000 x227001 x227002) else (none)) else (none)) else (none)) else (none)) else (legal_Check.l1 k x1 x2 x8 x45 x46 (wrap64 (x47 + 1)) x217000 x217001 x217002 x217003 x217004 x217005)
def legal_Check.l3 : Nat → List Int → List (List Bool) → List (S47) → Int → Int → Int → Int → Int → List (S98) → List (S100) → List (S96) → Option (Int)
 | 0, _, _, _, _, _, _, _, _, _, _, _ => none
 | k + 1, x1, x8, x67, x68, x69, x217000, x217001, x217002, x217003, x217004, x217005 => if x69 < x68 then (if 0 ≤ x69 then (if x69 < (x67.length : Int) then (if x69 < (x1.length : Int) then (if (rd x1 x69) < 1 then (legal_Check.j4 k x1 x8 x69 x67 x68 x69 true x217000 x217001 x217002 x217003 x217004 x217005 ((rd_T47 x67 x69).f0) ((rd_T47 x67 x69).f1)) else (if (rd x1 x69) > 40 then (legal_Check.j4 k x1 x8 x69 x67 x68 x69 true x217000 x217001 x217002 x217003 x217004 x217005 ((rd_T47 x67 x69).f0) ((rd_T47 x67 x69).f1)) else (if ((rd_T47 x67 x69).f0) < 0 then (legal_Check.j4 k x1 x8 x69 x67 x68 x69 true x217000 x217001 x217002 x217003 x217004 x217005 ((rd_T47 x67 x69).f0) ((rd_T47 x67 x69).f1)) else (if ((rd_T47 x67 x69).f0) ≥ x217000 then (legal_Check.j4 k x1 x8 x69 x67 x68 x69 true x217000 x217001 x217002 x217003 x217004 x217005 ((rd_T47 x67 x69).f0) ((rd_T47 x67 x69).f1)) else (if ((rd_T47 x67 x69).f1) < 0 then (legal_Check.j4 k x1 x8 x69 x67 x68 x69 true x217000 x217001 x217002 x217003 x217004 x217005 ((rd_T47 x67 x69).f0) ((rd_T47 x67 x69).f1)) else (legal_Check.j4 k x1 x8 x69 x67 x68 x69 (decide (((rd_T47 x67 x69).f1) > (wrap64 (x217001 - (rd x1 x69))))) x217000 x217001 x217002 x217003 x217004 x217005 ((rd_T47 x67 x69).f0) ((rd_T47 x67 x69).f1))))))) else (none)) else (none)) else (none)) else (some 0)
def legal_Check.j4 : Nat → List Int → List (List Bool) → Int → List (S47) → Int → Int → Bool → Int → Int → Int → List (S98) → List (S100) → List (S96) → Int → Int → Option (Int)
 | 0, _, _, _, _, _, _, _, _, _, _, _, _, _, _, _ => none
 | k + 1, x1, x8, x13, x67, x68, x69, x114, x217000, x217001, x217002, x217003, x217004, x217005, x233000, x233001 => if x114 = true then (some 2) else (legal_Check.l4 k x1 x8 x13 x233001 x67 x68 x69 x217000 x217001 x217002 x217003 x217004 x217005 x233000 x233001)
def legal_Check.l4 : Nat → List Int → List (List Bool) → Int → Int → List (S47) → Int → Int → Int → Int → Int → List (S98) → List (S100) → List (S96) → Int → Int → Option (Int)
 | 0, _, _, _, _, _, _, _, _, _, _, _, _, _, _, _ => none
 | k + 1, x1, x8, x13, x15, x67, x68, x69, x217000, x217001, x217002, x217003, x217004, x217005, x233000, x233001 => if 0 ≤ x13 then (if x13 < (x1.length : Int) then (if x15 < (wrap64 (x233001 + (rd x1 x13))) then (if 0 ≤ x233000 then (if x233000 < (x8.length : Int) then (if 0 ≤ x15 then (if x15 < ((rd_L7 x8 x233000).length : Int) then (if rdOf false (rd_L7 x8 x233000) x15 = true then (some 15) else (legal_Check.l4 k x1 (x8.set (x233000 : Int).toNat ((rd_L7 x8 x233000).set (x15 : Int).toNat true)) x13 (wrap64 (x15 + 1)) x67 x68 x69 x217000 x217001 x217002 x217003 x217004 x217005 x233000 x233001)) else (none)) else (none)) else (none)) else (none)) else (legal_Check.l3 k x1 x8 x67 x68 (wrap64 (x69 + 1)) x217000 x217001 x217002 x217003 x217004 x217005)) else (none)) else (none)
end
def legal_Check.f (k : Nat) (a0_0 : Int) (a0_1 : Int) (a0_2 : Int) (l0_3 : List (S98)) (l0_4 : List (S100)) (l0_5 : List (S96)) (l1 : List Int) (l2 : List (S47)) : Option (Int) := (floor_Check.f k a0_0 a0_1 a0_2 l0_3 l0_4 l0_5).bind fun t217 => (if t217 = 0 then (if (l1.length : Int) > 364 then (some 3) else (if (l2.length : Int) = (l1.length : Int) then (if 0 ≤ a0_0 then (if (a0_0 : Int).toNat ≤ 11728124029610 then ((some (List.replicate (a0_0 : Int).toNat [] : List (List Bool))).bind fun y218 => (legal_Check.l0 k l1 l2 y218 (y218.length : Int) 0 a0_0 a0_1 a0_2 l0_3 l0_4 l0_5)) else (none)) else (none)) else (some 4))) else (some t217))
theorem legal_Check.mono_l : ∀ k, (∀ y0 y1 y2 y3 y4 y5 y6 y7 y8 y9 y10, LeO (legal_Check.l0 k y0 y1 y2 y3 y4 y5 y6 y7 y8 y9 y10) (legal_Check.l0 (k + 1) y0 y1 y2 y3 y4 y5 y6 y7 y8 y9 y10)) ∧ (∀ y0 y1 y2 y3 y4 y5 y6 y7 y8 y9 y10 y11, LeO (legal_Check.l1 k y0 y1 y2 y3 y4 y5 y6 y7 y8 y9 y10 y11) (legal_Check.l1 (k + 1) y0 y1 y2 y3 y4 y5 y6 y7 y8 y9 y10 y11)) ∧ (∀ y0 y1 y2 y3 y4 y5 y6 y7 y8 y9 y10 y11 y12 y13 y14 y15, LeO (legal_Check.l2 k y0 y1 y2 y3 y4 y5 y6 y7 y8 y9 y10 y11 y12 y13 y14 y15) (legal_Check.l2 (k + 1) y0 y1 y2 y3 y4 y5 y6 y7 y8 y9 y10 y11 y12 y13 y14 y15)) ∧ (∀ y0 y1 y2 y3 y4 y5 y6 y7 y8 y9 y10, LeO (legal_Check.l3 k y0 y1 y2 y3 y4 y5 y6 y7 y8 y9 y10) (legal_Check.l3 (k + 1) y0 y1 y2 y3 y4 y5 y6 y7 y8 y9 y10)) ∧ (∀ y0 y1 y2 y3 y4 y5 y6 y7 y8 y9 y10 y11 y12 y13 y14, LeO (legal_Check.j4 k y0 y1 y2 y3 y4 y5 y6 y7 y8 y9 y10 y11 y12 y13 y14) (legal_Check.j4 (k + 1) y0 y1 y2 y3 y4 y5 y6 y7 y8 y9 y10 y11 y12 y13 y14)) ∧ (∀ y0 y1 y2 y3 y4 y5 y6 y7 y8 y9 y10 y11 y12 y13 y14, LeO (legal_Check.l4 k y0 y1 y2 y3 y4 y5 y6 y7 y8 y9 y10 y11 y12 y13 y14) (legal_Check.l4 (k + 1) y0 y1 y2 y3 y4 y5 y6 y7 y8 y9 y10 y11 y12 y13 y14))
 | 0 => ⟨fun _ _ _ _ _ _ _ _ _ _ _ r h => by simp [legal_Check.l0] at h, fun _ _ _ _ _ _ _ _ _ _ _ _ r h => by simp [legal_Check.l1] at h, fun _ _ _ _ _ _ _ _ _ _ _ _ _ _ _ _ r h => by simp [legal_Check.l2] at h, fun _ _ _ _ _ _ _ _ _ _ _ r h => by simp [legal_Check.l3] at h, fun _ _ _ _ _ _ _ _ _ _ _ _ _ _ _ r h => by simp [legal_Check.j4] at h, fun _ _ _ _ _ _ _ _ _ _ _ _ _ _ _ r h => by simp [legal_Check.l4] at h⟩
 | k + 1 => by
  obtain ⟨ih0, ih1, ih2, ih3, ih4, ih5⟩ := legal_Check.mono_l k
  refine ⟨?_, ?_, ?_, ?_, ?_, ?_⟩
  · intro y0 y1 y2 y3 y4 y5 y6 y7 y8 y9 y10
    unfold legal_Check.l0
    repeat' first
    | (with_reducible exact ih0 _ _ _ _ _ _ _ _ _ _ _)
    | (with_reducible exact ih1 _ _ _ _ _ _ _ _ _ _ _ _)
    | (with_reducible exact LeO.refl _)
    | (with_reducible exact LeO.none _)
    | (with_reducible refine LeO.ite ?_ ?_)
    | (with_reducible refine LeO.bind ?_ (fun _ => ?_))
  · intro y0 y1 y2 y3 y4 y5 y6 y7 y8 y9 y10 y11
    unfold legal_Check.l1
    repeat' first
    | (with_reducible exact ih2 _ _ _ _ _ _ _ _ _ _ _ _ _ _ _ _)
    | (with_reducible exact ih3 _ _ _ _ _ _ _ _ _ _ _)
    | (with_reducible exact LeO.refl _)
    | (with_reducible exact LeO.none _)
    | (with_reducible refine LeO.ite ?_ ?_)
    | (with_reducible refine LeO.bind ?_ (fun _ => ?_))
  · intro y0 y1 y2 y3 y4 y5 y6 y7 y8 y9 y10 y11 y12 y13 y14 y15
    unfold legal_Check.l2
    repeat' first
    | (with_reducible exact ih1 _ _ _ _ _ _ _ _ _ _ _ _)
    | (with_reducible exact ih2 _ _ _ _ _ _ _ _ _ _ _ _ _ _ _ _)
    | (with_reducible exact LeO.refl _)
    | (with_reducible exact LeO.none _)
    | (with_reducible refine LeO.ite ?_ ?_)
    | (with_reducible refine LeO.bind ?_ (fun _ => ?_))
  · intro y0 y1 y2 y3 y4 y5 y6 y7 y8 y9 y10
    unfold legal_Check.l3
    repeat' first
    | (with_reducible exact ih4 _ _ _ _ _ _ _ _ _ _ _ _ _ _ _)
    | (with_reducible exact LeO.refl _)
    | (with_reducible exact LeO.none _)
    | (with_reducible refine LeO.ite ?_ ?_)
    | (with_reducible refine LeO.bind ?_ (fun _ => ?_))
  · intro y0 y1 y2 y3 y4 y5 y6 y7 y8 y9 y10 y11 y12 y13 y14
    unfold legal_Check.j4
    repeat' first
    | (with_reducible exact ih5 _ _ _ _ _ _ _ _ _ _ _ _ _ _ _)
    | (with_reducible exact LeO.refl _)
    | (with_reducible exact LeO.none _)
    | (with_reducible refine LeO.ite ?_ ?_)
    | (with_reducible refine LeO.bind ?_ (fun _ => ?_))
  · intro y0 y1 y2 y3 y4 y5 y6 y7 y8 y9 y10 y11 y12 y13 y14
    unfold legal_Check.l4
    repeat' first
    | (with_reducible exact ih3 _ _ _ _ _ _ _ _ _ _ _)
    | (with_reducible exact ih5 _ _ _ _ _ _ _ _ _ _ _ _ _ _ _)
    | (with_reducible exact LeO.refl _)
    | (with_reducible exact LeO.none _)
    | (with_reducible refine LeO.ite ?_ ?_)
    | (with_reducible refine LeO.bind ?_ (fun _ => ?_))
theorem legal_Check.mono : ∀ a0 a1 a2 a3 a4 a5 a6 a7 k, LeO (legal_Check.f k a0 a1 a2 a3 a4 a5 a6 a7) (legal_Check.f (k + 1) a0 a1 a2 a3 a4 a5 a6 a7) := by
 intro a0 a1 a2 a3 a4 a5 a6 a7 k
 obtain ⟨ih0, ih1, ih2, ih3, ih4, ih5⟩ := legal_Check.mono_l k
 unfold legal_Check.f
 repeat' first
  | (with_reducible exact ih0 _ _ _ _ _ _ _ _ _ _ _)
  | (with_reducible exact floor_Check.mono _ _ _ _ _ _ _)
  | (with_reducible exact LeO.refl _)
  | (with_reducible exact LeO.none _)
  | (with_reducible refine LeO.ite ?_ ?_)
  | (with_reducible refine LeO.bind ?_ (fun _ => ?_))
set_option maxHeartbeats 8000000 in
set_option maxRecDepth 100000 in
theorem legal_Check.calls (k : Nat) (a0_0 : Int) (a0_1 : Int) (a0_2 : Int) (A0_3 : Option Addr) (c0_3 : Nat) (l0_3 : List (S98)) (A0_4 : Option Addr) (c0_4 : Nat) (l0_4 : List (S100)) (A0_5 : Option Addr) (c0_5 : Nat) (l0_5 : List (S96)) (A1 : Option Addr) (c1 : Nat) (l1 : List Int) (A2 : Option Addr) (c2 : Nat) (l2 : List (S47)) (r : Int) (w : World) (hr0_3 : Kd.C k98 w A0_3 l0_3.length l0_3) (hc0_3 : l0_3.length ≤ c0_3) (hr0_4 : Kd.C k100 w A0_4 l0_4.length l0_4) (hc0_4 : l0_4.length ≤ c0_4) (hr0_5 : Kd.C k96 w A0_5 l0_5.length l0_5) (hc0_5 : l0_5.length ≤ c0_5) (hr1 : Kd.C (Kd.int .i64) w A1 l1.length l1) (hc1 : l1.length ≤ c1) (hr2 : Kd.C k47 w A2 l2.length l2) (hc2 : l2.length ≤ c2) (h : legal_Check.f k a0_0 a0_1 a0_2 l0_3 l0_4 l0_5 l1 l2 = some r) :
 Calls Try.prog 36 #[.agg #[.int .i64 a0_0, .int .i64 a0_1, .int .i64 a0_2, .slice A0_3 l0_3.length c0_3, .slice A0_4 l0_4.length c0_4, .slice A0_5 l0_5.length c0_5], .slice A1 l1.length c1, .slice A2 l2.length c2] w fun e w' => e = .returned (.int .i64 r) ∧ Below w.heap.size w w' := by
 have HR0_3 := Aside0.mk hr0_3
 have HC0_3 := Aside0.mk hc0_3
 clear hr0_3 hc0_3
 have HR0_4 := Aside0.mk hr0_4
 have HC0_4 := Aside0.mk hc0_4
 clear hr0_4 hc0_4
 have HR0_5 := Aside0.mk hr0_5
 have HC0_5 := Aside0.mk hc0_5
 clear hr0_5 hc0_5
 have HR1 := Aside0.mk hr1
 clear hr1 hc1
 have HR2 := Aside0.mk hr2
 clear hr2 hc2
 have HB := Aside0.mk (Below.refl w.heap.size w)
 have H : ((floor_Check.f k a0_0 a0_1 a0_2 l0_3 l0_4 l0_5).bind fun t217 => (if t217 = 0 then (if (l1.length : Int) > 364 then (some 3) else (if (l2.length : Int) = (l1.length : Int) then (if 0 ≤ a0_0 then (if (a0_0 : Int).toNat ≤ 11728124029610 then ((some (List.replicate (a0_0 : Int).toNat [] : List (List Bool))).bind fun y218 => (legal_Check.l0 k l1 l2 y218 (y218.length : Int) 0 a0_0 a0_1 a0_2 l0_3 l0_4 l0_5)) else (none)) else (none)) else (some 4))) else (some t217))) = some r := h
 clear h
 replace H := Option.bind_eq_some_iff.mp H
 obtain ⟨t217, A40, H⟩ := H
 replace H : (if t217 = 0 then (if (l1.length : Int) > 364 then (some 3) else (if (l2.length : Int) = (l1.length : Int) then (if 0 ≤ a0_0 then (if (a0_0 : Int).toNat ≤ 11728124029610 then ((some (List.replicate (a0_0 : Int).toNat [] : List (List Bool))).bind fun y218 => (legal_Check.l0 k l1 l2 y218 (y218.length : Int) 0 a0_0 a0_1 a0_2 l0_3 l0_4 l0_5)) else (none)) else (none)) else (some 4))) else (some t217)) = some r := H
 have A4 := Aside0.mk A40
 clear A40
 by_cases c5 : t217 = 0
 rotate_left
 · rw [if_neg c5] at H
   have c5b1 : (t217 != 0) = true := bne_iff_ne.mpr c5
   obtain rfl := Option.some.inj H
   go_enter Try.func36, Try.ntmps36
   go_wp2_with (first | ((with_reducible refine gate_dst (N := 3) rfl ?_); refine box_event ?hg (N := 3) ?hd (cs := #[.int .i64 a0_0, .int .i64 a0_1, .int .i64 a0_2, .slice A0_3 l0_3.length c0_3, .slice A0_4 l0_4.length c0_4, .slice A0_5 l0_5.length c0_5]) (t := 57) ?hr ?_; (case hd => rfl); (case hg => rfl); (case hr => first | (go_simp; done) | (go_simp; rfl)); intro gb216 hg w98 hbox hb; have n0_ := Aside0.mk (below_step (by repeat (first | (with_reducible first | exact HB.out | apply below_alloc | apply pw_below_drewN | apply below_drew1) | exact HB.out)) hb); have n1_ := Aside0.mk (hbox); have n2_ := Aside0.mk ((by rw [hg]; exact (below_size (by repeat (first | (with_reducible first | exact HB.out | apply below_alloc | apply pw_below_drewN | apply below_drew1) | exact HB.out))) : w.heap.size ≤ gb216)); have n3_ := Aside0.mk ((by rw [hg]; exact (below_size (by repeat (first | (with_reducible first | exact HB.out | apply below_alloc | apply pw_below_drewN | apply below_drew1) | exact HB.out))) : w.heap.size ≤ gb216)); clear HB; have HB := n0_; have BK216 := n1_; clear n0_ n1_ n2_ n3_; clear hb hbox hg; have hcz99_0 : w98.cell? ⟨gb216, 0, none⟩ = some (.int .i64 a0_0) := (blk_cell BK216.out 0).trans rfl; have hcz99_1 : w98.cell? ⟨gb216, 1, none⟩ = some (.int .i64 a0_1) := (blk_cell BK216.out 1).trans rfl; have hcz99_2 : w98.cell? ⟨gb216, 2, none⟩ = some (.int .i64 a0_2) := (blk_cell BK216.out 2).trans rfl; have hcz99_3 : w98.cell? ⟨gb216, 3, none⟩ = some (.slice A0_3 l0_3.length c0_3) := (blk_cell BK216.out 3).trans rfl; have hcz99_4 : w98.cell? ⟨gb216, 4, none⟩ = some (.slice A0_4 l0_4.length c0_4) := (blk_cell BK216.out 4).trans rfl; have hcz99_5 : w98.cell? ⟨gb216, 5, none⟩ = some (.slice A0_5 l0_5.length c0_5) := (blk_cell BK216.out 5).trans rfl; have hfz99_5 := blk_frozen BK216.out 5) | (go_at_call 22; (with_reducible refine (floor_Check.calls k a0_0 a0_1 a0_2 _ _ l0_3 _ _ l0_4 _ _ l0_5 t217 _ ?side1 ?side2 ?side3 ?side4 ?side5 ?side6 A4.out).mono ?_); (case side1 => repeat (first | exact (Kd.C_below HR0_3.out HB.out) | (with_reducible refine Kd.C_alloc ?_ _) | (with_reducible refine Kd.C_drewN ?_ _) | (with_reducible refine Kd.C_drew ?_))); (case side2 => exact HC0_3.out); (case side3 => repeat (first | exact (Kd.C_below HR0_4.out HB.out) | (with_reducible refine Kd.C_alloc ?_ _) | (with_reducible refine Kd.C_drewN ?_ _) | (with_reducible refine Kd.C_drew ?_))); (case side4 => exact HC0_4.out); (case side5 => repeat (first | exact (Kd.C_below HR0_5.out HB.out) | (with_reducible refine Kd.C_alloc ?_ _) | (with_reducible refine Kd.C_drewN ?_ _) | (with_reducible refine Kd.C_drew ?_))); (case side6 => exact HC0_5.out); rintro e w100 ⟨rfl, hb⟩; have n0_ := Aside0.mk (blk_below (g := gb216) (o := .cells #[.int .i64 a0_0, .int .i64 a0_1, .int .i64 a0_2, .slice A0_3 l0_3.length c0_3, .slice A0_4 l0_4.length c0_4, .slice A0_5 l0_5.length c0_5] 57 (0, 0)) (by (with_reducible repeat (first | refine blk_drewN ?_ _ | refine blk_drew ?_ | refine blk_alloc ?_ _)); exact BK216.out) hb); have n1_ := Aside0.mk (below_step (by repeat (first | (with_reducible first | exact HB.out | apply below_alloc | apply pw_below_drewN | apply below_drew1 | refine below_set ?_ GE216.out) | exact HB.out)) hb); clear BK216; clear HB; have HB := n1_; clear n0_ n1_; (try clear hb); (try clear hb2); (try clear hk); (try clear hi)))
   repeat (go_quiet (fail); try go_wp2_with fail)
   go_ret
   exact ⟨by first | rfl | (simp [errW_none, errW_some] <;> rfl) | (simp [*, errW_none, errW_some] <;> rfl), by repeat (first | (with_reducible first | exact HB.out | apply below_alloc | apply pw_below_drewN | apply below_drew1 | refine below_set ?_ GE216.out) | exact HB.out)⟩
 rw [if_pos c5] at H
 have c5b0 : (t217 == 0) = true := beq_iff_eq.mpr c5
 have c5b1 : (t217 != 0) = false := bne_eq_false_iff_eq.mpr c5
 clear c5
 by_cases c6 : (l1.length : Int) > 364
 · rw [if_pos c6] at H
   have c6b0 : decide (364 < (l1.length : Int)) = true := decide_eq_true c6
   clear c6
   obtain rfl := Option.some.inj H
   go_enter Try.func36, Try.ntmps36
   go_wp2_with (first | ((with_reducible refine gate_dst (N := 3) rfl ?_); refine box_event ?hg (N := 3) ?hd (cs := #[.int .i64 a0_0, .int .i64 a0_1, .int .i64 a0_2, .slice A0_3 l0_3.length c0_3, .slice A0_4 l0_4.length c0_4, .slice A0_5 l0_5.length c0_5]) (t := 57) ?hr ?_; (case hd => rfl); (case hg => rfl); (case hr => first | (go_simp; done) | (go_simp; rfl)); intro gb216 hg w7 hbox hb; have n0_ := Aside0.mk (below_step (by repeat (first | (with_reducible first | exact HB.out | apply below_alloc | apply pw_below_drewN | apply below_drew1) | exact HB.out)) hb); have n1_ := Aside0.mk (hbox); have n2_ := Aside0.mk ((by rw [hg]; exact (below_size (by repeat (first | (with_reducible first | exact HB.out | apply below_alloc | apply pw_below_drewN | apply below_drew1) | exact HB.out))) : w.heap.size ≤ gb216)); have n3_ := Aside0.mk ((by rw [hg]; exact (below_size (by repeat (first | (with_reducible first | exact HB.out | apply below_alloc | apply pw_below_drewN | apply below_drew1) | exact HB.out))) : w.heap.size ≤ gb216)); clear HB; have HB := n0_; have BK216 := n1_; clear n0_ n1_ n2_ n3_; clear hb hbox hg; have hcz8_0 : w7.cell? ⟨gb216, 0, none⟩ = some (.int .i64 a0_0) := (blk_cell BK216.out 0).trans rfl; have hcz8_1 : w7.cell? ⟨gb216, 1, none⟩ = some (.int .i64 a0_1) := (blk_cell BK216.out 1).trans rfl; have hcz8_2 : w7.cell? ⟨gb216, 2, none⟩ = some (.int .i64 a0_2) := (blk_cell BK216.out 2).trans rfl; have hcz8_3 : w7.cell? ⟨gb216, 3, none⟩ = some (.slice A0_3 l0_3.length c0_3) := (blk_cell BK216.out 3).trans rfl; have hcz8_4 : w7.cell? ⟨gb216, 4, none⟩ = some (.slice A0_4 l0_4.length c0_4) := (blk_cell BK216.out 4).trans rfl; have hcz8_5 : w7.cell? ⟨gb216, 5, none⟩ = some (.slice A0_5 l0_5.length c0_5) := (blk_cell BK216.out 5).trans rfl; have hfz8_5 := blk_frozen BK216.out 5) | (go_at_call 22; (with_reducible refine (floor_Check.calls k a0_0 a0_1 a0_2 _ _ l0_3 _ _ l0_4 _ _ l0_5 t217 _ ?side1 ?side2 ?side3 ?side4 ?side5 ?side6 A4.out).mono ?_); (case side1 => repeat (first | exact (Kd.C_below HR0_3.out HB.out) | (with_reducible refine Kd.C_alloc ?_ _) | (with_reducible refine Kd.C_drewN ?_ _) | (with_reducible refine Kd.C_drew ?_))); (case side2 => exact HC0_3.out); (case side3 => repeat (first | exact (Kd.C_below HR0_4.out HB.out) | (with_reducible refine Kd.C_alloc ?_ _) | (with_reducible refine Kd.C_drewN ?_ _) | (with_reducible refine Kd.C_drew ?_))); (case side4 => exact HC0_4.out); (case side5 => repeat (first | exact (Kd.C_below HR0_5.out HB.out) | (with_reducible refine Kd.C_alloc ?_ _) | (with_reducible refine Kd.C_drewN ?_ _) | (with_reducible refine Kd.C_drew ?_))); (case side6 => exact HC0_5.out); rintro e w9 ⟨rfl, hb⟩; have n0_ := Aside0.mk (blk_below (g := gb216) (o := .cells #[.int .i64 a0_0, .int .i64 a0_1, .int .i64 a0_2, .slice A0_3 l0_3.length c0_3, .slice A0_4 l0_4.length c0_4, .slice A0_5 l0_5.length c0_5] 57 (0, 0)) (by (with_reducible repeat (first | refine blk_drewN ?_ _ | refine blk_drew ?_ | refine blk_alloc ?_ _)); exact BK216.out) hb); have n1_ := Aside0.mk (below_step (by repeat (first | (with_reducible first | exact HB.out | apply below_alloc | apply pw_below_drewN | apply below_drew1 | refine below_set ?_ GE216.out) | exact HB.out)) hb); clear BK216; clear HB; have HB := n1_; clear n0_ n1_; (try clear hb); (try clear hb2); (try clear hk); (try clear hi)))
   repeat (go_quiet (fail); try go_wp2_with fail)
   go_ret
   exact ⟨by first | rfl | (simp [errW_none, errW_some] <;> rfl) | (simp [*, errW_none, errW_some] <;> rfl), by repeat (first | (with_reducible first | exact HB.out | apply below_alloc | apply pw_below_drewN | apply below_drew1 | refine below_set ?_ GE216.out) | exact HB.out)⟩
 rw [if_neg c6] at H
 have c6b0 : decide (364 < (l1.length : Int)) = false := decide_eq_false c6
 have c6b1 : decide (364 < l1.length) = false := decide_eq_false (by omega)
 clear c6
 by_cases c10 : (l2.length : Int) = (l1.length : Int)
 rotate_left
 · rw [if_neg c10] at H
   have c10b1 : ((l2.length : Int) != (l1.length : Int)) = true := bne_iff_ne.mpr c10
   obtain rfl := Option.some.inj H
   go_enter Try.func36, Try.ntmps36
   go_wp2_with (first | ((with_reducible refine gate_dst (N := 3) rfl ?_); refine box_event ?hg (N := 3) ?hd (cs := #[.int .i64 a0_0, .int .i64 a0_1, .int .i64 a0_2, .slice A0_3 l0_3.length c0_3, .slice A0_4 l0_4.length c0_4, .slice A0_5 l0_5.length c0_5]) (t := 57) ?hr ?_; (case hd => rfl); (case hg => rfl); (case hr => first | (go_simp; done) | (go_simp; rfl)); intro gb216 hg w95 hbox hb; have n0_ := Aside0.mk (below_step (by repeat (first | (with_reducible first | exact HB.out | apply below_alloc | apply pw_below_drewN | apply below_drew1) | exact HB.out)) hb); have n1_ := Aside0.mk (hbox); have n2_ := Aside0.mk ((by rw [hg]; exact (below_size (by repeat (first | (with_reducible first | exact HB.out | apply below_alloc | apply pw_below_drewN | apply below_drew1) | exact HB.out))) : w.heap.size ≤ gb216)); have n3_ := Aside0.mk ((by rw [hg]; exact (below_size (by repeat (first | (with_reducible first | exact HB.out | apply below_alloc | apply pw_below_drewN | apply below_drew1) | exact HB.out))) : w.heap.size ≤ gb216)); clear HB; have HB := n0_; have BK216 := n1_; clear n0_ n1_ n2_ n3_; clear hb hbox hg; have hcz96_0 : w95.cell? ⟨gb216, 0, none⟩ = some (.int .i64 a0_0) := (blk_cell BK216.out 0).trans rfl; have hcz96_1 : w95.cell? ⟨gb216, 1, none⟩ = some (.int .i64 a0_1) := (blk_cell BK216.out 1).trans rfl; have hcz96_2 : w95.cell? ⟨gb216, 2, none⟩ = some (.int .i64 a0_2) := (blk_cell BK216.out 2).trans rfl; have hcz96_3 : w95.cell? ⟨gb216, 3, none⟩ = some (.slice A0_3 l0_3.length c0_3) := (blk_cell BK216.out 3).trans rfl; have hcz96_4 : w95.cell? ⟨gb216, 4, none⟩ = some (.slice A0_4 l0_4.length c0_4) := (blk_cell BK216.out 4).trans rfl; have hcz96_5 : w95.cell? ⟨gb216, 5, none⟩ = some (.slice A0_5 l0_5.length c0_5) := (blk_cell BK216.out 5).trans rfl; have hfz96_5 := blk_frozen BK216.out 5) | (go_at_call 22; (with_reducible refine (floor_Check.calls k a0_0 a0_1 a0_2 _ _ l0_3 _ _ l0_4 _ _ l0_5 t217 _ ?side1 ?side2 ?side3 ?side4 ?side5 ?side6 A4.out).mono ?_); (case side1 => repeat (first | exact (Kd.C_below HR0_3.out HB.out) | (with_reducible refine Kd.C_alloc ?_ _) | (with_reducible refine Kd.C_drewN ?_ _) | (with_reducible refine Kd.C_drew ?_))); (case side2 => exact HC0_3.out); (case side3 => repeat (first | exact (Kd.C_below HR0_4.out HB.out) | (with_reducible refine Kd.C_alloc ?_ _) | (with_reducible refine Kd.C_drewN ?_ _) | (with_reducible refine Kd.C_drew ?_))); (case side4 => exact HC0_4.out); (case side5 => repeat (first | exact (Kd.C_below HR0_5.out HB.out) | (with_reducible refine Kd.C_alloc ?_ _) | (with_reducible refine Kd.C_drewN ?_ _) | (with_reducible refine Kd.C_drew ?_))); (case side6 => exact HC0_5.out); rintro e w97 ⟨rfl, hb⟩; have n0_ := Aside0.mk (blk_below (g := gb216) (o := .cells #[.int .i64 a0_0, .int .i64 a0_1, .int .i64 a0_2, .slice A0_3 l0_3.length c0_3, .slice A0_4 l0_4.length c0_4, .slice A0_5 l0_5.length c0_5] 57 (0, 0)) (by (with_reducible repeat (first | refine blk_drewN ?_ _ | refine blk_drew ?_ | refine blk_alloc ?_ _)); exact BK216.out) hb); have n1_ := Aside0.mk (below_step (by repeat (first | (with_reducible first | exact HB.out | apply below_alloc | apply pw_below_drewN | apply below_drew1 | refine below_set ?_ GE216.out) | exact HB.out)) hb); clear BK216; clear HB; have HB := n1_; clear n0_ n1_; (try clear hb); (try clear hb2); (try clear hk); (try clear hi)))
   repeat (go_quiet (fail); try go_wp2_with fail)
   go_ret
   exact ⟨by first | rfl | (simp [errW_none, errW_some] <;> rfl) | (simp [*, errW_none, errW_some] <;> rfl), by repeat (first | (with_reducible first | exact HB.out | apply below_alloc | apply pw_below_drewN | apply below_drew1 | refine below_set ?_ GE216.out) | exact HB.out)⟩
 rw [if_pos c10] at H
 have c10b0 : ((l2.length : Int) == (l1.length : Int)) = true := beq_iff_eq.mpr c10
 have c10b1 : ((l2.length : Int) != (l1.length : Int)) = false := bne_eq_false_iff_eq.mpr c10
 have c10b2 : (l2.length == l1.length) = true := by first | simpa using c10 | (simp at c10 ⊢; omega)
 clear c10
 by_cases c11 : 0 ≤ a0_0
 rotate_left
 · rw [if_neg c11] at H
   exact absurd H (by simp)
 rw [if_pos c11] at H
 have c11b0 := eq_true c11
 have c11b1 : decide (0 ≤ a0_0) = true := decide_eq_true c11
 clear c11
 by_cases c12 : (a0_0 : Int).toNat ≤ 11728124029610
 rotate_left
 · rw [if_neg c12] at H
   exact absurd H (by simp)
 rw [if_pos c12] at H
 have c12b0 := eq_true c12
 have c12b1 : decide ((a0_0 : Int).toNat ≤ 11728124029610) = true := decide_eq_true c12
 clear c12
 obtain ⟨y218, hy218⟩ : ∃ y_ : List (List Bool), y_ = (List.replicate (a0_0 : Int).toNat []) := ⟨_, rfl⟩
 replace H : (legal_Check.l0 k l1 l2 y218 (y218.length : Int) 0 a0_0 a0_1 a0_2 l0_3 l0_4 l0_5) = some r := by first | (rw [hy218]; with_reducible exact H) | (have H2_ := (Option.bind_some _ _).symm.trans H; rw [hy218]; with_reducible exact H2_) | (have H2_ := (Option.bind_some _ _).symm.trans H; with_reducible exact H2_) | with_reducible exact H | (rw [hy218]; exact H) | exact H
 have Ny218 := Aside0.mk hy218
 clear hy218
 have H' := Aside0.mk H
 clear H
 go_enter Try.func36, Try.ntmps36
 go_wp2_with (first | ((with_reducible refine gate_dst (N := 3) rfl ?_); refine box_event ?hg (N := 3) ?hd (cs := #[.int .i64 a0_0, .int .i64 a0_1, .int .i64 a0_2, .slice A0_3 l0_3.length c0_3, .slice A0_4 l0_4.length c0_4, .slice A0_5 l0_5.length c0_5]) (t := 57) ?hr ?_; (case hd => rfl); (case hg => rfl); (case hr => first | (go_simp; done) | (go_simp; rfl)); intro gb216 hg w13 hbox hb; have n0_ := Aside0.mk (below_step (by repeat (first | (with_reducible first | exact HB.out | apply below_alloc | apply pw_below_drewN | apply below_drew1) | exact HB.out)) hb); have n1_ := Aside0.mk (hbox); have n2_ := Aside0.mk ((by rw [hg]; exact (below_size (by repeat (first | (with_reducible first | exact HB.out | apply below_alloc | apply pw_below_drewN | apply below_drew1) | exact HB.out))) : w.heap.size ≤ gb216)); have n3_ := Aside0.mk ((by rw [hg]; exact (below_size (by repeat (first | (with_reducible first | exact HB.out | apply below_alloc | apply pw_below_drewN | apply below_drew1) | exact HB.out))) : w.heap.size ≤ gb216)); clear HB; have HB := n0_; have BK216 := n1_; have GE216 := n3_; clear n0_ n1_ n2_ n3_; clear hb hbox hg; have hcz14_0 : w13.cell? ⟨gb216, 0, none⟩ = some (.int .i64 a0_0) := (blk_cell BK216.out 0).trans rfl; have hcz14_1 : w13.cell? ⟨gb216, 1, none⟩ = some (.int .i64 a0_1) := (blk_cell BK216.out 1).trans rfl; have hcz14_2 : w13.cell? ⟨gb216, 2, none⟩ = some (.int .i64 a0_2) := (blk_cell BK216.out 2).trans rfl; have hcz14_3 : w13.cell? ⟨gb216, 3, none⟩ = some (.slice A0_3 l0_3.length c0_3) := (blk_cell BK216.out 3).trans rfl; have hcz14_4 : w13.cell? ⟨gb216, 4, none⟩ = some (.slice A0_4 l0_4.length c0_4) := (blk_cell BK216.out 4).trans rfl; have hcz14_5 : w13.cell? ⟨gb216, 5, none⟩ = some (.slice A0_5 l0_5.length c0_5) := (blk_cell BK216.out 5).trans rfl; have hfz14_0 := blk_frozen BK216.out 0; have hfz14_1 := blk_frozen BK216.out 1; have hfz14_2 := blk_frozen BK216.out 2; have hfz14_3 := blk_frozen BK216.out 3; have hfz14_4 := blk_frozen BK216.out 4; have hfz14_5 := blk_frozen BK216.out 5) | (go_at_call 22; (with_reducible refine (floor_Check.calls k a0_0 a0_1 a0_2 _ _ l0_3 _ _ l0_4 _ _ l0_5 t217 _ ?side1 ?side2 ?side3 ?side4 ?side5 ?side6 A4.out).mono ?_); (case side1 => repeat (first | exact (Kd.C_below HR0_3.out HB.out) | (with_reducible refine Kd.C_alloc ?_ _) | (with_reducible refine Kd.C_drewN ?_ _) | (with_reducible refine Kd.C_drew ?_))); (case side2 => exact HC0_3.out); (case side3 => repeat (first | exact (Kd.C_below HR0_4.out HB.out) | (with_reducible refine Kd.C_alloc ?_ _) | (with_reducible refine Kd.C_drewN ?_ _) | (with_reducible refine Kd.C_drew ?_))); (case side4 => exact HC0_4.out); (case side5 => repeat (first | exact (Kd.C_below HR0_5.out HB.out) | (with_reducible refine Kd.C_alloc ?_ _) | (with_reducible refine Kd.C_drewN ?_ _) | (with_reducible refine Kd.C_drew ?_))); (case side6 => exact HC0_5.out); rintro e w15 ⟨rfl, hb⟩; have n0_ := Aside0.mk (blk_below (g := gb216) (o := .cells #[.int .i64 a0_0, .int .i64 a0_1, .int .i64 a0_2, .slice A0_3 l0_3.length c0_3, .slice A0_4 l0_4.length c0_4, .slice A0_5 l0_5.length c0_5] 57 (0, 0)) (by (with_reducible repeat (first | refine blk_drewN ?_ _ | refine blk_drew ?_ | refine blk_alloc ?_ _)); exact BK216.out) hb); have n1_ := Aside0.mk (below_step (by repeat (first | (with_reducible first | exact HB.out | apply below_alloc | apply pw_below_drewN | apply below_drew1 | refine below_set ?_ GE216.out) | exact HB.out)) hb); clear BK216; clear HB; have BK216 := n0_; have HB := n1_; clear n0_ n1_; (try clear hb); (try clear hb2); (try clear hk); (try clear hi); have hcz16_0 : w15.cell? ⟨gb216, 0, none⟩ = some (.int .i64 a0_0) := (blk_cell BK216.out 0).trans rfl; have hcz16_1 : w15.cell? ⟨gb216, 1, none⟩ = some (.int .i64 a0_1) := (blk_cell BK216.out 1).trans rfl; have hcz16_2 : w15.cell? ⟨gb216, 2, none⟩ = some (.int .i64 a0_2) := (blk_cell BK216.out 2).trans rfl; have hcz16_3 : w15.cell? ⟨gb216, 3, none⟩ = some (.slice A0_3 l0_3.length c0_3) := (blk_cell BK216.out 3).trans rfl; have hcz16_4 : w15.cell? ⟨gb216, 4, none⟩ = some (.slice A0_4 l0_4.length c0_4) := (blk_cell BK216.out 4).trans rfl; have hcz16_5 : w15.cell? ⟨gb216, 5, none⟩ = some (.slice A0_5 l0_5.length c0_5) := (blk_cell BK216.out 5).trans rfl; have hfz16_0 := blk_frozen BK216.out 0; have hfz16_1 := blk_frozen BK216.out 1; have hfz16_2 := blk_frozen BK216.out 2; have hfz16_3 := blk_frozen BK216.out 3; have hfz16_4 := blk_frozen BK216.out 4; have hfz16_5 := blk_frozen BK216.out 5) | ((with_reducible refine gate_dst (N := 31) rfl ?_); refine Kd.S_make (Kd.slice 4 Kd.bool) _ 104 rfl (N := 31) rfl 109 _ _ rfl a0_0 rfl rfl Try.underlying109 (.slice none 0 0) 24 info104 rfl (by decide) (by omega) [] (ok := fun _ => True) (okp := fun _ => True) ⟨_, rfl, Kd.R_nil _ _ _ _ _⟩ (fun _ hk => hk) trivial (of_decide_eq_true (by first | (with_reducible assumption) | assumption)) (Nat.le_trans (Nat.mul_le_mul_right _ (of_decide_eq_true (by first | (with_reducible assumption) | assumption) : a0_0.toNat ≤ 11728124029610)) (by omega)) (Below.refl _ _) (Nat.le_refl _) ?_; intro v219 w17 ho18 hb hg_ hnew_; clear hg_ hnew_; (first | rw [← Ny218.out] at ho18 | (simp only [Int.reduceToNat] at ho18; rw [← Ny218.out] at ho18)); have n0_ := Aside0.mk (Kd.S_lower ho18 (below_size (by repeat (first | (with_reducible first | exact HB.out | apply below_alloc | apply pw_below_drewN | apply below_drew1 | refine below_set ?_ GE216.out) | exact HB.out)))); have n1_ := Aside0.mk (blk_below (g := gb216) (o := .cells #[.int .i64 a0_0, .int .i64 a0_1, .int .i64 a0_2, .slice A0_3 l0_3.length c0_3, .slice A0_4 l0_4.length c0_4, .slice A0_5 l0_5.length c0_5] 57 (0, 0)) (by (with_reducible repeat (first | refine blk_drewN ?_ _ | refine blk_drew ?_ | refine blk_alloc ?_ _)); exact BK216.out) hb); have n2_ := Aside0.mk (below_step (by repeat (first | (with_reducible first | exact HB.out | apply below_alloc | apply pw_below_drewN | apply below_drew1 | refine below_set ?_ GE216.out) | exact HB.out)) hb); clear BK216; clear HB; have HO220 := n0_; have BK216 := n1_; have HB := n2_; clear n0_ n1_ n2_; clear hb ho18; obtain ⟨Ao19, co19, eo19⟩ := Kd.S_slice HO220.out; subst eo19))
 repeat (go_quiet (fail); try go_wp2_with fail)
 go_loopg [34] k (fun kq v34 w' => ∃ (x8_1 : List (List Bool)) (x34_1 : Int), v34 = .int .i64 x34_1 ∧ Aside0 (legal_Check.l0 kq l1 l2 x8_1 (y218.length : Int) x34_1 a0_0 a0_1 a0_2 l0_3 l0_4 l0_5 = some r) ∧ Aside0 (kq ≤ k) ∧ Aside0 (Kd.S (Kd.slice 4 Kd.bool) 104 w' w.heap.size (fun _ => True) (.slice Ao19 y218.length co19) x8_1) ∧ Aside0 (w'.heap[gb216]? = some (.cells #[.int .i64 a0_0, .int .i64 a0_1, .int .i64 a0_2, (.slice A0_3 l0_3.length c0_3), (.slice A0_4 l0_4.length c0_4), (.slice A0_5 l0_5.length c0_5)] 57 (0, 0))) ∧ Aside0 (Below w.heap.size w w'))
 case atStart => exact ⟨(y218), (0), (by first | rfl | (simp; done) | (simp [*]; done)), H', ⟨Nat.le_refl _⟩, ⟨by (with_reducible repeat (first | apply Kd.S_alloc | apply Kd.S_drewN | apply Kd.S_drew)); exact HO220.out⟩, ⟨by (with_reducible repeat (first | refine blk_drewN ?_ _ | refine blk_drew ?_ | refine blk_alloc ?_ _)); exact BK216.out⟩, ⟨by repeat (first | (with_reducible first | exact HB.out | apply below_alloc | apply pw_below_drewN | apply below_drew1 | refine below_set ?_ GE216.out) | exact HB.out)⟩⟩
 clear H'
 clear c5b0 c5b1 c6b0 c6b1 c10b0 c10b1 c10b2 c11b0 c11b1 c12b0 c12b1 hcz14_0 hcz14_1 hcz14_2 hcz14_3 hcz14_4 hcz14_5 hcz16_0 hcz16_1 hcz16_2 hcz16_3 hcz16_4 hcz16_5 hfz14_0 hfz14_1 hfz14_2 hfz14_3 hfz14_4 hfz14_5 hfz16_0 hfz16_1 hfz16_2 hfz16_3 hfz16_4 hfz16_5
 obtain ⟨x8_1, x34_1, rfl, HA, HK1, HO_8, BK216, HB⟩ := hrel
 have hl8_1 := (Kd.S_reads' HO_8.out).1
 rw [hl8_1] at HO_8
 (try simp only [hl8_1])
 (try simp only [hl8_1] at BK216)
 cases gk with
 | zero => exact absurd HA.out (by simp [legal_Check.l0])
 | succ k1 =>
  have H := HA.out
  clear HA
  simp only [legal_Check.l0] at H
  by_cases c20 : x34_1 < (y218.length : Int)
  · rw [if_pos c20] at H
    have c20b0 : decide (x34_1 < (y218.length : Int)) = true := decide_eq_true c20
    clear c20
    by_cases c21 : 0 ≤ a0_1
    rotate_left
    · rw [if_neg c21] at H
      exact absurd H (by simp)
    rw [if_pos c21] at H
    have c21b0 := eq_true c21
    have c21b1 : decide (0 ≤ a0_1) = true := decide_eq_true c21
    clear c21
    by_cases c22 : (a0_1 : Int).toNat ≤ 281474976710656
    rotate_left
    · rw [if_neg c22] at H
      exact absurd H (by simp)
    rw [if_pos c22] at H
    have c22b1 : decide ((a0_1 : Int).toNat ≤ 281474976710656) = true := decide_eq_true c22
    clear c22
    obtain ⟨y221, hy221⟩ : ∃ y_ : List Bool, y_ = (List.replicate (a0_1 : Int).toNat false) := ⟨_, rfl⟩
    replace H : (if 0 ≤ x34_1 then (if x34_1 < (x8_1.length : Int) then (legal_Check.l0 k1 l1 l2 (x8_1.set (x34_1 : Int).toNat y221) (y218.length : Int) (wrap64 (x34_1 + 1)) a0_0 a0_1 a0_2 l0_3 l0_4 l0_5) else (none)) else (none)) = some r := by first | (rw [hy221]; with_reducible exact H) | (have H2_ := (Option.bind_some _ _).symm.trans H; rw [hy221]; with_reducible exact H2_) | (have H2_ := (Option.bind_some _ _).symm.trans H; with_reducible exact H2_) | with_reducible exact H | (rw [hy221]; exact H) | exact H
    have Ny221 := Aside0.mk hy221
    clear hy221
    by_cases c23 : 0 ≤ x34_1
    rotate_left
    · rw [if_neg c23] at H
      exact absurd H (by simp)
    rw [if_pos c23] at H
    have c23b0 : decide (0 ≤ x34_1) = true := decide_eq_true c23
    clear c23
    by_cases c24 : x34_1 < (x8_1.length : Int)
    rotate_left
    · rw [if_neg c24] at H
      exact absurd H (by simp)
    rw [if_pos c24] at H
    have c24b0 : decide (x34_1 < (x8_1.length : Int)) = true := decide_eq_true c24
    clear c24
    obtain ⟨y224, hy224⟩ : ∃ y_ : List (List Bool), y_ = (x8_1.set (x34_1 : Int).toNat y221) := ⟨_, rfl⟩
    replace H : (legal_Check.l0 k1 l1 l2 y224 (y218.length : Int) (wrap64 (x34_1 + 1)) a0_0 a0_1 a0_2 l0_3 l0_4 l0_5) = some r := by first | (rw [hy224]; with_reducible exact H) | (have H2_ := (Option.bind_some _ _).symm.trans H; rw [hy224]; with_reducible exact H2_) | (have H2_ := (Option.bind_some _ _).symm.trans H; with_reducible exact H2_) | with_reducible exact H | (rw [hy224]; exact H) | exact H
    have Ny224 := Aside0.mk hy224
    clear hy224
    have H' := Aside0.mk H
    clear H
    have hcz26_1 : wr.cell? ⟨gb216, 1, none⟩ = some (.int .i64 a0_1) := (blk_cell BK216.out 1).trans rfl
    go_wp2_with (first | ((with_reducible refine gate_dst (N := 41) rfl ?_); refine Kd.R_make Kd.bool _ 4 rfl (N := 41) rfl 104 _ _ rfl a0_1 rfl rfl Try.underlying104 (.bool false) 1 info4 rfl (by decide) (by omega) false (ok := fun _ => True) (okp := fun _ => True) rfl (fun _ hk => hk) trivial (of_decide_eq_true (by first | (with_reducible assumption) | assumption)) (Nat.le_trans (Nat.mul_le_mul_right _ (of_decide_eq_true (by first | (with_reducible assumption) | assumption) : a0_1.toNat ≤ 281474976710656)) (by omega)) (Below.refl _ _) (Nat.le_refl _) ?_; intro v222 w27 ho28 hb hg_ hnew_; clear hg_ hnew_; (first | rw [← Ny221.out] at ho28 | (simp only [Int.reduceToNat] at ho28; rw [← Ny221.out] at ho28)); have n0_ := Aside0.mk (Kd.S_elder' (by (with_reducible repeat (first | apply Kd.S_alloc | apply Kd.S_drewN | apply Kd.S_drew)); exact HO_8.out) (Kd.R_base ho28) hb); have n1_ := Aside0.mk (Kd.R_lower ho28 (below_size (by repeat (first | (with_reducible first | exact HB.out | apply below_alloc | apply pw_below_drewN | apply below_drew1 | refine below_set ?_ GE216.out) | exact HB.out)))); have n2_ := Aside0.mk (blk_below (g := gb216) (o := .cells #[.int .i64 a0_0, .int .i64 a0_1, .int .i64 a0_2, .slice A0_3 l0_3.length c0_3, .slice A0_4 l0_4.length c0_4, .slice A0_5 l0_5.length c0_5] 57 (0, 0)) (by (with_reducible repeat (first | refine blk_drewN ?_ _ | refine blk_drew ?_ | refine blk_alloc ?_ _)); exact BK216.out) hb); have n3_ := Aside0.mk (below_step (by repeat (first | (with_reducible first | exact HB.out | apply below_alloc | apply pw_below_drewN | apply below_drew1 | refine below_set ?_ GE216.out) | exact HB.out)) hb); clear HO_8; clear BK216; clear HB; have HO_8 := n0_; have HO223 := n1_; have BK216 := n2_; have HB := n3_; clear n0_ n1_ n2_ n3_; clear hb ho28; have p25 : 0 ≤ (x34_1 : Int) := of_decide_eq_true (by first | (with_reducible assumption) | assumption); have q25 : (x34_1 : Int) < ((x8_1.length : Int) : Int) := of_decide_eq_true (by first | (with_reducible assumption) | assumption); obtain ⟨go25, co25, eo25, gb25, gl25, cl25, HG25⟩ := Kd.S_form HO_8.out (by omega); (first | cases eo25 | (injection eo25 with ea_ en_ ec_; (first | subst ea_ | (injection ea_ with ea_; subst ea_)); subst ec_; clear en_)); have GB25 := Aside0.mk gb25; clear gb25 gl25 HG25; obtain ⟨_, ce25, hcl25, hM25, hcc25, hfr25, _, _⟩ := Kd.S_elem HO_8.out [] (x34_1 : Int) p25 q25; obtain ⟨ve25_0, rfl, ge25_0⟩ := hM25; have hx25_0 := hcc25 0 _ rfl; have hf25_0 := hfr25 0; (try simp only [show ((Kd.slice 4 Kd.bool)).sz = 1 from rfl, Nat.mul_one, Nat.add_zero] at hx25_0); (try simp only [show ((Kd.slice 4 Kd.bool)).sz = 1 from rfl, Nat.mul_one, Nat.add_zero] at hf25_0); clear hcl25 hcc25 hfr25; replace p25 := eq_true p25; replace q25 := eq_true q25; have n_ := Aside0.mk (Kd.S_mono (ok' := (fun k_ => some k_ ≠ (v222 : Value).ownBlock)) HO_8.out (fun k_ hk => hk.2)); clear HO_8; have HO_8 := n_; clear n_; have HX29 := Aside0.mk (show Kd.S (Kd.slice 4 Kd.bool) 104 w27 w.heap.size (fun k_ => ((fun _ => True)) k_ ∧ ¬ ((fun k_ => some k_ = (v222 : Value).ownBlock)) k_) (.slice (some ⟨go25, 0, none⟩) x8_1.length co19) x8_1 from (by (with_reducible repeat (first | apply Kd.S_alloc | apply Kd.S_drewN | apply Kd.S_drew)); exact Kd.S_mono HO_8.out (fun k_ hk => ⟨trivial, fun e_ => hk e_⟩))); obtain ⟨oki29, ce29, hcl29, hM29, hcc29, hfr29, hoki29, hH29⟩ := Kd.S_elem HX29.out [] (x34_1 : Int) (of_decide_eq_true (by first | (with_reducible assumption) | assumption)) (by have h_ : (x34_1 : Int) < ((x8_1.length : Int) : Int) := of_decide_eq_true (by first | (with_reducible assumption) | assumption); first | exact h_ | (have e_ := (Kd.S_reads' HO_8.out).1; omega) | simpa using h_); obtain ⟨ve29_0, rfl, ge29_0⟩ := hM29; have HP29 := Kd.S_seg hH29 (of_decide_eq_true (by first | (with_reducible assumption) | assumption)) (by have h_ : (x34_1 : Int) < ((x8_1.length : Int) : Int) := of_decide_eq_true (by first | (with_reducible assumption) | assumption); first | exact h_ | (have e_ := (Kd.S_reads' HO_8.out).1; omega) | simpa using h_) (seg := [v222]) (j := 0) (show 1 ≤ 1 from by decide) (x' := y221) (Kd.M_row (Kd.R_mono (Kd.R_tight rfl (Kd.R_mono (ok' := fun k_ => ((fun _ => True)) k_ ∧ k_ ≠ go25) (Kd.R_apart' (HO223.out) (Kd.S_typed HO_8.out) (by decide)) (fun k_ hk => ⟨trivial, fun e_ => (hk.2) (by rw [e_]; rfl)⟩))) (fun _ h_ => Or.inr (h_)))) (fun _ hk => hk) (fun k_ hk_ => ((Kd.R_mono (ok' := fun k_ => ((fun _ => True)) k_ ∧ k_ ≠ go25) (Kd.R_apart' (HO223.out) (Kd.S_typed HO_8.out) (by decide)) (fun k_ hk => ⟨trivial, fun e_ => (hk.2) (by rw [e_]; rfl)⟩))).1 k_ hk_.symm); have hx29_0 := hcc29 0 _ rfl; (try simp only [show ((Kd.slice 4 Kd.bool)).sz = 1 from rfl, Nat.mul_one, Nat.add_zero] at hx29_0); have hf29_0 := hfr29 0; (try simp only [show ((Kd.slice 4 Kd.bool)).sz = 1 from rfl, Nat.mul_one, Nat.add_zero] at hf29_0); clear hcl29 hcc29 hfr29 hoki29 hH29; (try simp only [show ((Kd.slice 4 Kd.bool)).sz = 1 from rfl, Nat.mul_one, Nat.add_zero] at HP29)) | ((with_reducible refine gate_store (t := 104) (p := 42) rfl ?_); (try (rw [drewN_self w27]; generalize hq_ : World.drewN w27 _ = w27; have n0_ := Aside0.mk (Kd.S_at hq_ HO_8.out); have n1_ := Aside0.mk (blk_at hq_ BK216.out); have n2_ := Aside0.mk (below_at hq_ HB.out); clear hq_ HO_8 BK216 HB; have HO_8 := n0_; have BK216 := n1_; have HB := n2_; clear n0_ n1_ n2_; (try (have n_ := Aside0.mk (Kd.S_mono (ok' := (fun k_ => some k_ ≠ (v222 : Value).ownBlock)) HO_8.out (fun k_ hk => hk.2)); clear HO_8; have HO_8 := n_; clear n_)); (try (have HX29 := Aside0.mk (show Kd.S (Kd.slice 4 Kd.bool) 104 w27 w.heap.size (fun k_ => ((fun _ => True)) k_ ∧ ¬ ((fun k_ => some k_ = (v222 : Value).ownBlock)) k_) (.slice (some ⟨go25, 0, none⟩) x8_1.length co19) x8_1 from (by (with_reducible repeat (first | apply Kd.S_alloc | apply Kd.S_drewN | apply Kd.S_drew)); exact Kd.S_mono HO_8.out (fun k_ hk => ⟨trivial, fun e_ => hk e_⟩))))); (try (obtain ⟨oki29, ce29, hcl29, hM29, hcc29, hfr29, hoki29, hH29⟩ := Kd.S_elem HX29.out [] (x34_1 : Int) (of_decide_eq_true (by first | (with_reducible assumption) | assumption)) (by have h_ : (x34_1 : Int) < ((x8_1.length : Int) : Int) := of_decide_eq_true (by first | (with_reducible assumption) | assumption); first | exact h_ | (have e_ := (Kd.S_reads' HO_8.out).1; omega) | simpa using h_))); (try (obtain ⟨ve29_0, rfl, ge29_0⟩ := hM29)); (try (have HP29 := Kd.S_seg hH29 (of_decide_eq_true (by first | (with_reducible assumption) | assumption)) (by have h_ : (x34_1 : Int) < ((x8_1.length : Int) : Int) := of_decide_eq_true (by first | (with_reducible assumption) | assumption); first | exact h_ | (have e_ := (Kd.S_reads' HO_8.out).1; omega) | simpa using h_) (seg := [v222]) (j := 0) (show 1 ≤ 1 from by decide) (x' := y221) (Kd.M_row (Kd.R_mono (Kd.R_tight rfl (Kd.R_mono (ok' := fun k_ => ((fun _ => True)) k_ ∧ k_ ≠ go25) (Kd.R_apart' (HO223.out) (Kd.S_typed HO_8.out) (by decide)) (fun k_ hk => ⟨trivial, fun e_ => (hk.2) (by rw [e_]; rfl)⟩))) (fun _ h_ => Or.inr (h_)))) (fun _ hk => hk) (fun k_ hk_ => ((Kd.R_mono (ok' := fun k_ => ((fun _ => True)) k_ ∧ k_ ≠ go25) (Kd.R_apart' (HO223.out) (Kd.S_typed HO_8.out) (by decide)) (fun k_ hk => ⟨trivial, fun e_ => (hk.2) (by rw [e_]; rfl)⟩))).1 k_ hk_.symm))); (try (have hx29_0 := hcc29 0 _ rfl)); (try (try simp only [show ((Kd.slice 4 Kd.bool)).sz = 1 from rfl, Nat.mul_one, Nat.add_zero] at hx29_0)); (try (have hf29_0 := hfr29 0)); (try (try simp only [show ((Kd.slice 4 Kd.bool)).sz = 1 from rfl, Nat.mul_one, Nat.add_zero] at hf29_0)); (try (clear hcl29 hcc29 hfr29 hoki29 hH29)); (try (try simp only [show ((Kd.slice 4 Kd.bool)).sz = 1 from rfl, Nat.mul_one, Nat.add_zero] at HP29)))); refine store_event (t := 104) (p := 42) (v := ?vo_w30) (w1 := (w27.setCell ⟨go25, (x34_1 : Int).toNat, none⟩ (v222))) ?hg ?ho ?hn ?hr ?_; (case ho => rfl); (case hg => rfl); (case hn => rfl); (case hr => first | (go_simp; done) | (go_simp; rfl) | (obtain ⟨Av_, cv_, ev_⟩ := Kd.R_slice HO223.out; rw [ev_]; (try simp only [Int.toNat_natCast] at hx25_0 hf25_0); first | (go_simp; done) | (go_simp; rfl))); intro w30 hw; have hg : w27.grownBy w30 (some go25) := (by rw [hw]; exact HP29.2); have hp_ : Kd.S (Kd.slice 4 Kd.bool) 104 w30 w.heap.size (fun _ => True) (.slice (some ⟨go25, 0, none⟩) x8_1.length co19) y224 := (by rw [hw, Ny224.out]; exact HP29.1); clear HP29; have n0_ := Aside0.mk (hp_); have n1_ := Aside0.mk (blk_grown (g := gb216) (o := .cells #[.int .i64 a0_0, .int .i64 a0_1, .int .i64 a0_2, .slice A0_3 l0_3.length c0_3, .slice A0_4 l0_4.length c0_4, .slice A0_5 l0_5.length c0_5] 57 (0, 0)) (by (with_reducible repeat (first | refine blk_drewN ?_ _ | refine blk_drew ?_ | refine blk_alloc ?_ _)); exact BK216.out) hg (Kd.S_ne HO_8.out BK216.out (by decide))); have n2_ := Aside0.mk ((by rw [hw]; exact below_set (HB.out) GB25.out : Below w.heap.size w w30)); clear HO_8; clear BK216; clear HB; clear HO223; have HO_8 := n0_; have BK216 := n1_; have HB := n2_; clear n0_ n1_ n2_; clear hg hw hp_))
    repeat (go_quiet (fail); try go_wp2_with fail)
    (try simp only [← hl8_1])
    go_roundg k1
    case measure => have := HK1.out; omega
    case rel => exact ⟨(y224), (wrap64 (x34_1 + 1)), (by first | rfl | (simp; done) | (simp [*]; done)), H', ⟨by have := HK1.out; omega⟩, ⟨by (try simp only [hl8_1]); (with_reducible repeat (first | apply Kd.S_alloc | apply Kd.S_drewN | apply Kd.S_drew)); exact HO_8.out⟩, ⟨by (try simp only [hl8_1]); (with_reducible repeat (first | refine blk_drewN ?_ _ | refine blk_drew ?_ | refine blk_alloc ?_ _)); exact BK216.out⟩, ⟨by repeat (first | (with_reducible first | exact HB.out | apply below_alloc | apply pw_below_drewN | apply below_drew1 | refine below_set ?_ GE216.out) | exact HB.out)⟩⟩
  rw [if_neg c20] at H
  have c20b0 : decide (x34_1 < (y218.length : Int)) = false := decide_eq_false c20
  (try (have c20d0 := c20b0; rw [hl8_1] at c20d0))
  clear c20
  have H' := Aside0.mk H
  clear H
  have hcz31_0 : wr.cell? ⟨gb216, 0, none⟩ = some (.int .i64 a0_0) := (blk_cell BK216.out 0).trans rfl
  have hcz31_1 : wr.cell? ⟨gb216, 1, none⟩ = some (.int .i64 a0_1) := (blk_cell BK216.out 1).trans rfl
  have hcz31_2 : wr.cell? ⟨gb216, 2, none⟩ = some (.int .i64 a0_2) := (blk_cell BK216.out 2).trans rfl
  have hcz31_3 : wr.cell? ⟨gb216, 3, none⟩ = some (.slice A0_3 l0_3.length c0_3) := (blk_cell BK216.out 3).trans rfl
  have hcz31_4 : wr.cell? ⟨gb216, 4, none⟩ = some (.slice A0_4 l0_4.length c0_4) := (blk_cell BK216.out 4).trans rfl
  have hcz31_5 : wr.cell? ⟨gb216, 5, none⟩ = some (.slice A0_5 l0_5.length c0_5) := (blk_cell BK216.out 5).trans rfl
  have hfz31_0 := blk_frozen BK216.out 0
  have hfz31_1 := blk_frozen BK216.out 1
  have hfz31_2 := blk_frozen BK216.out 2
  have hfz31_3 := blk_frozen BK216.out 3
  have hfz31_4 := blk_frozen BK216.out 4
  have hfz31_5 := blk_frozen BK216.out 5
  go_wp2
  repeat (go_quiet (fail); try go_wp2)
  go_loopg [47] k1 (fun kq v47 w' => ∃ (x8_2 : List (List Bool)) (x47_2 : Int), v47 = .int .i64 x47_2 ∧ Aside0 (legal_Check.l1 kq l1 l2 x8_2 l0_3 (l0_3.length : Int) x47_2 a0_0 a0_1 a0_2 l0_3 l0_4 l0_5 = some r) ∧ Aside0 (kq ≤ k1) ∧ Aside0 (Kd.S (Kd.slice 4 Kd.bool) 104 w' w.heap.size (fun _ => True) (.slice Ao19 x8_1.length co19) x8_2) ∧ Aside0 (w'.heap[gb216]? = some (.cells #[.int .i64 a0_0, .int .i64 a0_1, .int .i64 a0_2, (.slice A0_3 l0_3.length c0_3), (.slice A0_4 l0_4.length c0_4), (.slice A0_5 l0_5.length c0_5)] 57 (0, 0))) ∧ Aside0 (Below w.heap.size w w'))
  case atStart => exact ⟨(x8_1), (0), (by first | rfl | (simp; done) | (simp [*]; done)), H', ⟨Nat.le_refl _⟩, ⟨by (try simp only [hl8_1]); (with_reducible repeat (first | apply Kd.S_alloc | apply Kd.S_drewN | apply Kd.S_drew)); exact HO_8.out⟩, ⟨by (try simp only [hl8_1]); (with_reducible repeat (first | refine blk_drewN ?_ _ | refine blk_drew ?_ | refine blk_alloc ?_ _)); exact BK216.out⟩, ⟨by repeat (first | (with_reducible first | exact HB.out | apply below_alloc | apply pw_below_drewN | apply below_drew1 | refine below_set ?_ GE216.out) | exact HB.out)⟩⟩
  clear H'
  clear c20b0 hcz31_0 hcz31_1 hcz31_2 hcz31_3 hcz31_4 hcz31_5 hfz31_0 hfz31_1 hfz31_2 hfz31_3 hfz31_4 hfz31_5
  obtain ⟨x8_2, x47_2, rfl, HA, HK2, HO_8, BK216, HB⟩ := hrel
  have hl8_2 := (Kd.S_reads' HO_8.out).1
  rw [hl8_2] at HO_8
  (try simp only [hl8_2])
  (try simp only [hl8_2] at BK216)
  cases gk with
  | zero => exact absurd HA.out (by simp [legal_Check.l1])
  | succ k2 =>
   have H := HA.out
   clear HA
   simp only [legal_Check.l1] at H
   by_cases c32 : x47_2 < (l0_3.length : Int)
   · rw [if_pos c32] at H
     have c32b0 : decide (x47_2 < (l0_3.length : Int)) = true := decide_eq_true c32
     clear c32
     by_cases c33 : 0 ≤ x47_2
     rotate_left
     · rw [if_neg c33] at H
       exact absurd H (by simp)
     rw [if_pos c33] at H
     have c33b0 : decide (0 ≤ x47_2) = true := decide_eq_true c33
     clear c33
     by_cases c34 : x47_2 < (l0_3.length : Int)
     rotate_left
     · rw [if_neg c34] at H
       exact absurd H (by simp)
     rw [if_pos c34] at H
     have c34b0 : decide (x47_2 < (l0_3.length : Int)) = true := decide_eq_true c34
     clear c34
     have H' := Aside0.mk H
     clear H
     have p225 : 0 ≤ (x47_2 : Int) := of_decide_eq_true (by first | (with_reducible assumption) | assumption)
     have q225 : x47_2 < (l0_3.length : Int) := of_decide_eq_true (by first | (with_reducible assumption) | assumption)
     obtain ⟨ad225, e225, hx225_0, hx225_1, hx225_2⟩ := at_T98 HR0_3.out x47_2 p225 q225
     cases e225
     replace hx225_0 := (HB.out.cell (World.block_lt_of_cell? w _ hx225_0)).trans hx225_0
     replace hx225_1 := (HB.out.cell (World.block_lt_of_cell? w _ hx225_1)).trans hx225_1
     replace hx225_2 := (HB.out.cell (World.block_lt_of_cell? w _ hx225_2)).trans hx225_2
     replace p225 := eq_true p225
     replace q225 := eq_true q225
     go_wp2_with ((with_reducible refine gate_dst (N := 11) rfl ?_); refine box_event ?hg (N := 11) ?hd (cs := #[.int .i64 0, .int .i64 0, .int .i64 0]) (t := 98) ?hr ?_; (case hd => rfl); (case hg => rfl); (case hr => first | (go_simp; done) | (go_simp; rfl)); intro gb226 hg w35 hbox hb; have n0_ := Aside0.mk (Kd.S_below (by (with_reducible repeat (first | apply Kd.S_alloc | apply Kd.S_drewN | apply Kd.S_drew)); exact HO_8.out) hb); have n1_ := Aside0.mk (blk_below (g := gb216) (o := .cells #[.int .i64 a0_0, .int .i64 a0_1, .int .i64 a0_2, .slice (some ad225) l0_3.length c0_3, .slice A0_4 l0_4.length c0_4, .slice A0_5 l0_5.length c0_5] 57 (0, 0)) (by (with_reducible repeat (first | refine blk_drewN ?_ _ | refine blk_drew ?_ | refine blk_alloc ?_ _)); exact BK216.out) hb); have n2_ := Aside0.mk (below_step (by repeat (first | (with_reducible first | exact HB.out | apply below_alloc | apply pw_below_drewN | apply below_drew1 | refine below_set ?_ GE216.out) | exact HB.out)) hb); have n3_ := Aside0.mk (hbox); have n4_ := Aside0.mk ((by rw [hg]; exact (below_size (by repeat (first | (with_reducible first | exact HB.out | apply below_alloc | apply pw_below_drewN | apply below_drew1 | refine below_set ?_ GE216.out) | exact HB.out))) : w.heap.size ≤ gb226)); have n5_ := Aside0.mk ((by rw [hg]; exact (below_size (by repeat (first | (with_reducible first | exact HB.out | apply below_alloc | apply pw_below_drewN | apply below_drew1 | refine below_set ?_ GE216.out) | exact HB.out))) : w.heap.size ≤ gb226)); have n6_ := Aside0.mk ((by rw [hg]; exact Nat.ne_of_lt (blk_lt (g := gb216) (o := .cells #[.int .i64 a0_0, .int .i64 a0_1, .int .i64 a0_2, .slice (some ad225) l0_3.length c0_3, .slice A0_4 l0_4.length c0_4, .slice A0_5 l0_5.length c0_5] 57 (0, 0)) (by (with_reducible repeat (first | refine blk_drewN ?_ _ | refine blk_drew ?_ | refine blk_alloc ?_ _)); exact BK216.out)) : gb216 ≠ gb226)); have n7_ := Aside0.mk ((by rw [hg]; exact Nat.ne_of_gt (blk_lt (g := gb216) (o := .cells #[.int .i64 a0_0, .int .i64 a0_1, .int .i64 a0_2, .slice (some ad225) l0_3.length c0_3, .slice A0_4 l0_4.length c0_4, .slice A0_5 l0_5.length c0_5] 57 (0, 0)) (by (with_reducible repeat (first | refine blk_drewN ?_ _ | refine blk_drew ?_ | refine blk_alloc ?_ _)); exact BK216.out)) : gb226 ≠ gb216)); clear HO_8; clear BK216; clear HB; have HO_8 := n0_; have BK216 := n1_; have HB := n2_; have BK226 := n3_; have GE226 := n5_; have NB216_226 := n6_; have NB226_216 := n7_; clear n0_ n1_ n2_ n3_ n4_ n5_ n6_ n7_; clear hb hbox hg; have hcz37_0 : w35.cell? ⟨gb226, 0, none⟩ = some (.int .i64 0) := (blk_cell BK226.out 0).trans rfl; have hcz37_1 : w35.cell? ⟨gb226, 1, none⟩ = some (.int .i64 0) := (blk_cell BK226.out 1).trans rfl; have hcz37_2 : w35.cell? ⟨gb226, 2, none⟩ = some (.int .i64 0) := (blk_cell BK226.out 2).trans rfl; have hfz37_0 := blk_frozen BK226.out 0; have hfz37_1 := blk_frozen BK226.out 1; have hfz37_2 := blk_frozen BK226.out 2)
     repeat (go_quiet (fail); try go_wp2_with fail)
     go_loopg [12] k2 (fun kq v12 w' => ∃ (x8_3 : List (List Bool)) (x12_3 : Int), v12 = .int .i64 x12_3 ∧ Aside0 (legal_Check.l2 kq l1 l2 x8_3 x12_3 l0_3 (l0_3.length : Int) x47_2 a0_0 a0_1 a0_2 l0_3 l0_4 l0_5 ((rd_T98 l0_3 x47_2).f0) ((rd_T98 l0_3 x47_2).f1) ((rd_T98 l0_3 x47_2).f2) = some r) ∧ Aside0 (kq ≤ k2) ∧ Aside0 (Kd.S (Kd.slice 4 Kd.bool) 104 w' w.heap.size (fun _ => True) (.slice Ao19 x8_2.length co19) x8_3) ∧ Aside0 (w'.heap[gb216]? = some (.cells #[.int .i64 a0_0, .int .i64 a0_1, .int .i64 a0_2, (.slice (some ad225) l0_3.length c0_3), (.slice A0_4 l0_4.length c0_4), (.slice A0_5 l0_5.length c0_5)] 57 (0, 0))) ∧ Aside0 (w'.heap[gb226]? = some (.cells #[.int .i64 ((rd_T98 l0_3 x47_2).f0), .int .i64 ((rd_T98 l0_3 x47_2).f1), .int .i64 ((rd_T98 l0_3 x47_2).f2)] 98 (0, 0))) ∧ Aside0 (Below w.heap.size w w'))
     case atStart => exact ⟨(x8_2), ((rd_T98 l0_3 x47_2).f1), (by first | rfl | (simp; done) | (simp [*]; done)), H', ⟨Nat.le_refl _⟩, ⟨by (try simp only [hl8_1]); (try simp only [hl8_2]); (with_reducible repeat (first | apply Kd.S_alloc | apply Kd.S_drewN | apply Kd.S_drew)); exact Kd.S_mono (Kd.S_far (p := ⟨gb226, 2, none⟩) (Kd.S_far (p := ⟨gb226, 1, none⟩) (Kd.S_far (p := ⟨gb226, 0, none⟩) (Kd.S_types HO_8.out BK226.out (by decide)) (fun _ hk => hk.2) (.int .i64 ((rd_T98 l0_3 x47_2).f0))) (fun _ hk => hk.2) (.int .i64 ((rd_T98 l0_3 x47_2).f1))) (fun _ hk => hk.2) (.int .i64 ((rd_T98 l0_3 x47_2).f2))) (fun _ hk => trivial)⟩, ⟨by (try simp only [hl8_1]); (try simp only [hl8_2]); (with_reducible repeat (first | refine blk_drewN ?_ _ | refine blk_drew ?_ | refine blk_alloc ?_ _)); refine blk_far ?_ NB216_226.out _; (with_reducible repeat (first | refine blk_drewN ?_ _ | refine blk_drew ?_ | refine blk_alloc ?_ _)); refine blk_far ?_ NB216_226.out _; (with_reducible repeat (first | refine blk_drewN ?_ _ | refine blk_drew ?_ | refine blk_alloc ?_ _)); refine blk_far ?_ NB216_226.out _; (with_reducible repeat (first | refine blk_drewN ?_ _ | refine blk_drew ?_ | refine blk_alloc ?_ _)); exact BK216.out⟩, ⟨by (try simp only [hl8_1]); (try simp only [hl8_2]); (with_reducible repeat (first | refine blk_drewN ?_ _ | refine blk_drew ?_ | refine blk_alloc ?_ _)); refine blk_put (cs := #[.int .i64 ((rd_T98 l0_3 x47_2).f0), .int .i64 ((rd_T98 l0_3 x47_2).f1), .int .i64 0]) ?_ 2 _ rfl; (with_reducible repeat (first | refine blk_drewN ?_ _ | refine blk_drew ?_ | refine blk_alloc ?_ _)); refine blk_put (cs := #[.int .i64 ((rd_T98 l0_3 x47_2).f0), .int .i64 0, .int .i64 0]) ?_ 1 _ rfl; (with_reducible repeat (first | refine blk_drewN ?_ _ | refine blk_drew ?_ | refine blk_alloc ?_ _)); refine blk_put (cs := #[.int .i64 0, .int .i64 0, .int .i64 0]) ?_ 0 _ rfl; (with_reducible repeat (first | refine blk_drewN ?_ _ | refine blk_drew ?_ | refine blk_alloc ?_ _)); exact BK226.out⟩, ⟨by repeat (first | (with_reducible first | exact HB.out | apply below_alloc | apply pw_below_drewN | apply below_drew1 | refine below_set ?_ GE216.out | refine below_set ?_ GE226.out) | exact HB.out)⟩⟩
     clear H'
     clear c32b0 c33b0 c34b0 hcz37_0 hcz37_1 hcz37_2 hfz37_0 hfz37_1 hfz37_2 hx225_0 hx225_1 hx225_2 p225 q225
     obtain ⟨x8_3, x12_3, rfl, HA, HK3, HO_8, BK216, BK226, HB⟩ := hrel
     have hl8_3 := (Kd.S_reads' HO_8.out).1
     rw [hl8_3] at HO_8
     (try simp only [hl8_3])
     (try simp only [hl8_3] at BK216)
     (try simp only [hl8_3] at BK226)
     cases gk with
     | zero => exact absurd HA.out (by simp [legal_Check.l2])
     | succ k3 =>
      have H := HA.out
      clear HA
      simp only [legal_Check.l2] at H
      by_cases c38 : x12_3 < ((rd_T98 l0_3 x47_2).f2)
      rotate_left
      · rw [if_neg c38] at H
        have c38b0 : decide (x12_3 < ((rd_T98 l0_3 x47_2).f2)) = false := decide_eq_false c38
        clear c38
        have H' := Aside0.mk H
        clear H
        have hcz49_2 : wr.cell? ⟨gb226, 2, none⟩ = some (.int .i64 ((rd_T98 l0_3 x47_2).f2)) := (blk_cell BK226.out 2).trans rfl
        go_wp2
        repeat (go_quiet (fail); try go_wp2)
        (try simp only [← hl8_2, ← hl8_3])
        go_roundg k3
        case measure => have := HK1.out; have := HK2.out; have := HK3.out; omega
        case rel => exact ⟨(x8_3), (wrap64 (x47_2 + 1)), (by first | rfl | (simp; done) | (simp [*]; done)), H', ⟨by have := HK1.out; have := HK2.out; have := HK3.out; omega⟩, ⟨by (try simp only [hl8_1]); (try simp only [hl8_2]); (try simp only [hl8_3]); (with_reducible repeat (first | apply Kd.S_alloc | apply Kd.S_drewN | apply Kd.S_drew)); exact HO_8.out⟩, ⟨by (try simp only [hl8_1]); (try simp only [hl8_2]); (try simp only [hl8_3]); (with_reducible repeat (first | refine blk_drewN ?_ _ | refine blk_drew ?_ | refine blk_alloc ?_ _)); exact BK216.out⟩, ⟨by repeat (first | (with_reducible first | exact HB.out | apply below_alloc | apply pw_below_drewN | apply below_drew1 | refine below_set ?_ GE216.out | refine below_set ?_ GE226.out) | exact HB.out)⟩⟩
      rw [if_pos c38] at H
      have c38b0 : decide (x12_3 < ((rd_T98 l0_3 x47_2).f2)) = true := decide_eq_true c38
      clear c38
      by_cases c39 : 0 ≤ ((rd_T98 l0_3 x47_2).f0)
      rotate_left
      · rw [if_neg c39] at H
        exact absurd H (by simp)
      rw [if_pos c39] at H
      have c39b0 : decide (0 ≤ ((rd_T98 l0_3 x47_2).f0)) = true := decide_eq_true c39
      clear c39
      by_cases c40 : ((rd_T98 l0_3 x47_2).f0) < (x8_3.length : Int)
      rotate_left
      · rw [if_neg c40] at H
        exact absurd H (by simp)
      rw [if_pos c40] at H
      have c40b0 : decide (((rd_T98 l0_3 x47_2).f0) < (x8_3.length : Int)) = true := decide_eq_true c40
      clear c40
      by_cases c41 : 0 ≤ x12_3
      rotate_left
      · rw [if_neg c41] at H
        exact absurd H (by simp)
      rw [if_pos c41] at H
      have c41b0 : decide (0 ≤ x12_3) = true := decide_eq_true c41
      clear c41
      by_cases c42 : x12_3 < ((rd_L7 x8_3 ((rd_T98 l0_3 x47_2).f0)).length : Int)
      rotate_left
      · rw [if_neg c42] at H
        exact absurd H (by simp)
      rw [if_pos c42] at H
      have c42b0 : decide (x12_3 < ((rd_L7 x8_3 ((rd_T98 l0_3 x47_2).f0)).length : Int)) = true := decide_eq_true c42
      clear c42
      obtain ⟨y228, hy228⟩ : ∃ y_ : List Bool, y_ = ((rd_L7 x8_3 ((rd_T98 l0_3 x47_2).f0)).set (x12_3 : Int).toNat true) := ⟨_, rfl⟩
      replace H : (legal_Check.l2 k3 l1 l2 (x8_3.set (((rd_T98 l0_3 x47_2).f0) : Int).toNat y228) (wrap64 (x12_3 + 1)) l0_3 (l0_3.length : Int) x47_2 a0_0 a0_1 a0_2 l0_3 l0_4 l0_5 ((rd_T98 l0_3 x47_2).f0) ((rd_T98 l0_3 x47_2).f1) ((rd_T98 l0_3 x47_2).f2)) = some r := by first | (rw [hy228]; with_reducible exact H) | (have H2_ := (Option.bind_some _ _).symm.trans H; rw [hy228]; with_reducible exact H2_) | (have H2_ := (Option.bind_some _ _).symm.trans H; with_reducible exact H2_) | with_reducible exact H | (rw [hy228]; exact H) | exact H
      have Ny228 := Aside0.mk hy228
      clear hy228
      obtain ⟨y230, hy230⟩ : ∃ y_ : List (List Bool), y_ = (x8_3.set (((rd_T98 l0_3 x47_2).f0) : Int).toNat y228) := ⟨_, rfl⟩
      replace H : (legal_Check.l2 k3 l1 l2 y230 (wrap64 (x12_3 + 1)) l0_3 (l0_3.length : Int) x47_2 a0_0 a0_1 a0_2 l0_3 l0_4 l0_5 ((rd_T98 l0_3 x47_2).f0) ((rd_T98 l0_3 x47_2).f1) ((rd_T98 l0_3 x47_2).f2)) = some r := by first | (rw [hy230]; with_reducible exact H) | (have H2_ := (Option.bind_some _ _).symm.trans H; rw [hy230]; with_reducible exact H2_) | (have H2_ := (Option.bind_some _ _).symm.trans H; with_reducible exact H2_) | with_reducible exact H | (rw [hy230]; exact H) | exact H
      have Ny230 := Aside0.mk hy230
      clear hy230
      have H' := Aside0.mk H
      clear H
      have hcz45_0 : wr.cell? ⟨gb226, 0, none⟩ = some (.int .i64 ((rd_T98 l0_3 x47_2).f0)) := (blk_cell BK226.out 0).trans rfl
      have hcz45_2 : wr.cell? ⟨gb226, 2, none⟩ = some (.int .i64 ((rd_T98 l0_3 x47_2).f2)) := (blk_cell BK226.out 2).trans rfl
      have p227 : 0 ≤ (((rd_T98 l0_3 x47_2).f0) : Int) := of_decide_eq_true (by first | (with_reducible assumption) | assumption)
      have q227 : ((rd_T98 l0_3 x47_2).f0) < (x8_3.length : Int) := of_decide_eq_true (by first | (with_reducible assumption) | assumption)
      obtain ⟨ad227, A227_0, c227_0, e227, hx227_0, hl227_0, hi227_0⟩ := at_L7 (Kd.S_reads' HO_8.out).2.2 ((rd_T98 l0_3 x47_2).f0) p227 q227
      cases e227
      obtain ⟨ce227, hce227, hMe227, hcc227⟩ := Kd.S_get HO_8.out [] ((rd_T98 l0_3 x47_2).f0) p227 (by first | exact q227 | exact of_decide_eq_true (by first | (with_reducible assumption) | assumption) | (have e_ := (Kd.S_reads' HO_8.out).1; omega))
      obtain ⟨ve227_0, rfl, ge227_0⟩ := hMe227
      have hv227_0 := hcc227 0 _ rfl
      rw [Nat.add_zero, show ((Kd.slice 4 Kd.bool)).sz = 1 from rfl, Nat.mul_one] at hv227_0
      replace hv227_0 := Option.some.inj (hv227_0.symm.trans hx227_0)
      rw [hv227_0] at ge227_0
      have HL227_0 := Aside0.mk (show Kd.R Kd.bool 4 _ _ _ _ (rd_L7 x8_3 ((rd_T98 l0_3 x47_2).f0)) from ge227_0)
      clear hv227_0 ge227_0
      have HX227_0 := Aside0.mk hx227_0
      clear hcc227 hce227
      have HR227_0 := Aside0.mk hi227_0
      clear hi227_0 hl227_0
      replace p227 := eq_true p227
      replace q227 := eq_true q227
      have p43 : 0 ≤ (x12_3 : Int) := of_decide_eq_true (by first | (with_reducible assumption) | assumption)
      have q43 : (x12_3 : Int) < (((rd_L7 x8_3 ((rd_T98 l0_3 x47_2).f0)).length : Int) : Int) := of_decide_eq_true (by first | (with_reducible assumption) | assumption)
      obtain ⟨go43, co43, eo43, gb43, gl43, cl43, HG43⟩ := Kd.R_form HL227_0.out (by omega)
      (first | cases eo43 | (injection eo43 with ea_ en_ ec_; (first | subst ea_ | (injection ea_ with ea_; subst ea_)); subst ec_; clear en_))
      have GB43 := Aside0.mk gb43
      clear gb43 gl43 HG43
      obtain ⟨hx43_0, hf43_0⟩ := Kd.R_celln false HL227_0.out (x12_3 : Int) p43 q43
      replace p43 := eq_true p43
      replace q43 := eq_true q43
      have hq46 : (((rd_T98 l0_3 x47_2).f0) : Int) < (x8_3.length : Int) := (by have h_ : (((rd_T98 l0_3 x47_2).f0) : Int) < ((x8_3.length : Int) : Int) := of_decide_eq_true (by first | (with_reducible assumption) | assumption); first | exact h_ | (have e_ := (Kd.S_reads' HO_8.out).1; omega) | simpa only [List.length_set, List.length_set] using h_)
      obtain ⟨oki46, ce46, hcl46, hM46, hcc46, hok46, hbk46⟩ := Kd.S_borrow HO_8.out [] (((rd_T98 l0_3 x47_2).f0) : Int) (of_decide_eq_true (by first | (with_reducible assumption) | assumption)) (by first | exact hq46 | exact of_decide_eq_true (by first | (with_reducible assumption) | assumption))
      obtain ⟨ve46_0, rfl, ge46_0⟩ := hM46
      have hv46 := hcc46 0 _ rfl
      rw [Nat.add_zero, show ((Kd.slice 4 Kd.bool)).sz = 1 from rfl, Nat.mul_one] at hv46
      replace hv46 := Option.some.inj (hv46.symm.trans HX227_0.out)
      subst hv46
      clear hcc46 hcl46
      replace ge46_0 := (show Kd.R Kd.bool 4 _ _ _ _ (rd_L7 x8_3 ((rd_T98 l0_3 x47_2).f0)) from ge46_0)
      have HP46 := Kd.R_putg ge46_0 (x12_3 : Int) true
      go_wp2_with ((with_reducible refine gate_store (t := 4) (p := 65) rfl ?_); (try (rw [drewN_self wr]; generalize hq_ : World.drewN wr _ = wr; have n0_ := Aside0.mk (Kd.S_at hq_ HO_8.out); have n1_ := Aside0.mk (Kd.R_at hq_ HL227_0.out); have n2_ := Aside0.mk (blk_at hq_ BK216.out); have n3_ := Aside0.mk (blk_at hq_ BK226.out); have n4_ := Aside0.mk (below_at hq_ HB.out); have cat_ : ∀ {W W' : World} {m : Nat} {a : Addr} {v : Value}, W.drewN m = W' → W.cell? a = some v → W'.cell? a = some v := (by intro W W' m a v h h'; subst h; exact h'); have fat_ : ∀ {W W' : World} {m : Nat} {a : Addr}, W.drewN m = W' → W.frozen? a = false → W'.frozen? a = false := (by intro W W' m a h h'; subst h; exact h'); have m0_ := Aside0.mk (cat_ hq_ HX227_0.out); have m1_ := cat_ hq_ hx43_0; have m2_ := fat_ hq_ hf43_0; clear cat_ fat_ HX227_0 hx43_0 hf43_0; have HX227_0 := m0_; have hx43_0 := m1_; have hf43_0 := m2_; clear m0_; clear hq_ HO_8 HL227_0 BK216 BK226 HB; have HO_8 := n0_; have HL227_0 := n1_; have BK216 := n2_; have BK226 := n3_; have HB := n4_; clear n0_ n1_ n2_ n3_ n4_; (try (have hq46 : (((rd_T98 l0_3 x47_2).f0) : Int) < (x8_3.length : Int) := (by have h_ : (((rd_T98 l0_3 x47_2).f0) : Int) < ((x8_3.length : Int) : Int) := of_decide_eq_true (by first | (with_reducible assumption) | assumption); first | exact h_ | (have e_ := (Kd.S_reads' HO_8.out).1; omega) | simpa only [List.length_set, List.length_set] using h_))); (try (obtain ⟨oki46, ce46, hcl46, hM46, hcc46, hok46, hbk46⟩ := Kd.S_borrow HO_8.out [] (((rd_T98 l0_3 x47_2).f0) : Int) (of_decide_eq_true (by first | (with_reducible assumption) | assumption)) hq46)); (try (obtain ⟨ve46_0, rfl, ge46_0⟩ := hM46)); (try (have hv46 := hcc46 0 _ rfl)); (try (rw [Nat.add_zero, show ((Kd.slice 4 Kd.bool)).sz = 1 from rfl, Nat.mul_one] at hv46)); (try (replace hv46 := Option.some.inj (hv46.symm.trans HX227_0.out))); (try (subst hv46)); (try (clear hcc46 hcl46)); (try (replace ge46_0 := (show Kd.R Kd.bool 4 _ _ _ _ (rd_L7 x8_3 ((rd_T98 l0_3 x47_2).f0)) from ge46_0))); (try (have HP46 := Kd.R_putg ge46_0 (x12_3 : Int) true)))); refine store_event (t := 4) (p := 65) (v := ?vo_w47) (w1 := (wr.setCell ⟨go43, (x12_3 : Int).toNat, none⟩ (.bool true))) ?hg ?ho ?hn ?hr ?_; (case ho => rfl); (case hg => rfl); (case hn => rfl); (case hr => first | (go_simp; done) | (go_simp; rfl)); intro w47 hw; have hg : wr.grownBy w47 (some go43) := (by rw [hw]; exact HP46.2); have hz_ : Kd.R Kd.bool 4 w47 w.heap.size oki46 (.slice (some ⟨go43, 0, none⟩) (rd_L7 x8_3 ((rd_T98 l0_3 x47_2).f0)).length c227_0) y228 := (by rw [hw, Ny228.out]; exact HP46.1); have hp_ : Kd.S (Kd.slice 4 Kd.bool) 104 w47 w.heap.size (fun _ => True) (.slice (some ad227) x8_3.length co19) y230 := (by rw [Ny230.out]; exact hbk46 hg (fun k_ e_ => by injection e_ with e_; subst e_; exact ge46_0.1 _ rfl) (Kd.M_row hz_)); have hm_ := Kd.R_mono hz_ hok46; clear HP46 hbk46; have n0_ := Aside0.mk (hp_); have n1_ := Aside0.mk (blk_grown (g := gb216) (o := .cells #[.int .i64 a0_0, .int .i64 a0_1, .int .i64 a0_2, .slice (some ad225) l0_3.length c0_3, .slice A0_4 l0_4.length c0_4, .slice A0_5 l0_5.length c0_5] 57 (0, 0)) (by (with_reducible repeat (first | refine blk_drewN ?_ _ | refine blk_drew ?_ | refine blk_alloc ?_ _)); exact BK216.out) hg (Kd.R_ne HL227_0.out BK216.out (by decide))); have n2_ := Aside0.mk (blk_grown (g := gb226) (o := .cells #[.int .i64 ((rd_T98 l0_3 x47_2).f0), .int .i64 ((rd_T98 l0_3 x47_2).f1), .int .i64 ((rd_T98 l0_3 x47_2).f2)] 98 (0, 0)) (by (with_reducible repeat (first | refine blk_drewN ?_ _ | refine blk_drew ?_ | refine blk_alloc ?_ _)); exact BK226.out) hg (Kd.R_ne HL227_0.out BK226.out (by decide))); have n3_ := Aside0.mk ((by rw [hw]; exact below_set (HB.out) GB43.out : Below w.heap.size w w47)); have n4_ := Aside0.mk (hm_); have n5_ := Aside0.mk ((Kd.R_reads' hm_).2.1); clear HO_8; clear BK216; clear BK226; clear HB; clear HL227_0; have HO_8 := n0_; have BK216 := n1_; have BK226 := n2_; have HB := n3_; clear n0_ n1_ n2_ n3_ n4_ n5_; clear hg hw hp_ hz_ hm_ hok46)
      repeat (go_quiet (fail); try go_wp2_with fail)
      (try simp only [← hl8_3])
      go_roundg k3
      case measure => have := HK1.out; have := HK2.out; have := HK3.out; omega
      case rel => exact ⟨(y230), (wrap64 (x12_3 + 1)), (by first | rfl | (simp; done) | (simp [*]; done)), H', ⟨by have := HK1.out; have := HK2.out; have := HK3.out; omega⟩, ⟨by (try simp only [hl8_1]); (try simp only [hl8_2]); (try simp only [hl8_3]); (with_reducible repeat (first | apply Kd.S_alloc | apply Kd.S_drewN | apply Kd.S_drew)); exact HO_8.out⟩, ⟨by (try simp only [hl8_1]); (try simp only [hl8_2]); (try simp only [hl8_3]); (with_reducible repeat (first | refine blk_drewN ?_ _ | refine blk_drew ?_ | refine blk_alloc ?_ _)); exact BK216.out⟩, ⟨by (try simp only [hl8_1]); (try simp only [hl8_2]); (try simp only [hl8_3]); (with_reducible repeat (first | refine blk_drewN ?_ _ | refine blk_drew ?_ | refine blk_alloc ?_ _)); exact BK226.out⟩, ⟨by repeat (first | (with_reducible first | exact HB.out | apply below_alloc | apply pw_below_drewN | apply below_drew1 | refine below_set ?_ GE216.out | refine below_set ?_ GE226.out) | exact HB.out)⟩⟩
   rw [if_neg c32] at H
   have c32b0 : decide (x47_2 < (l0_3.length : Int)) = false := decide_eq_false c32
   clear c32
   have H' := Aside0.mk H
   clear H
   go_wp2
   repeat (go_quiet (fail); try go_wp2)
   go_loopg [69] k2 (fun kq v69 w' => ∃ (x8_3 : List (List Bool)) (x69_3 : Int), v69 = .int .i64 x69_3 ∧ Aside0 (legal_Check.l3 kq l1 x8_3 l2 (l2.length : Int) x69_3 a0_0 a0_1 a0_2 l0_3 l0_4 l0_5 = some r) ∧ Aside0 (kq ≤ k2) ∧ Aside0 (Kd.S (Kd.slice 4 Kd.bool) 104 w' w.heap.size (fun _ => True) (.slice Ao19 x8_2.length co19) x8_3) ∧ Aside0 (w'.heap[gb216]? = some (.cells #[.int .i64 a0_0, .int .i64 a0_1, .int .i64 a0_2, (.slice A0_3 l0_3.length c0_3), (.slice A0_4 l0_4.length c0_4), (.slice A0_5 l0_5.length c0_5)] 57 (0, 0))) ∧ Aside0 (Below w.heap.size w w'))
   case atStart => exact ⟨(x8_2), (0), (by first | rfl | (simp; done) | (simp [*]; done)), H', ⟨Nat.le_refl _⟩, ⟨by (try simp only [hl8_1]); (try simp only [hl8_2]); (with_reducible repeat (first | apply Kd.S_alloc | apply Kd.S_drewN | apply Kd.S_drew)); exact HO_8.out⟩, ⟨by (try simp only [hl8_1]); (try simp only [hl8_2]); (with_reducible repeat (first | refine blk_drewN ?_ _ | refine blk_drew ?_ | refine blk_alloc ?_ _)); exact BK216.out⟩, ⟨by repeat (first | (with_reducible first | exact HB.out | apply below_alloc | apply pw_below_drewN | apply below_drew1 | refine below_set ?_ GE216.out) | exact HB.out)⟩⟩
   clear H'
   clear c32b0
   obtain ⟨x8_3, x69_3, rfl, HA, HK3, HO_8, BK216, HB⟩ := hrel
   have hl8_3 := (Kd.S_reads' HO_8.out).1
   rw [hl8_3] at HO_8
   (try simp only [hl8_3])
   (try simp only [hl8_3] at BK216)
   cases gk with
   | zero => exact absurd HA.out (by simp [legal_Check.l3])
   | succ k3 =>
    have H := HA.out
    clear HA
    simp only [legal_Check.l3] at H
    by_cases c50 : x69_3 < (l2.length : Int)
    rotate_left
    · rw [if_neg c50] at H
      have c50b0 : decide (x69_3 < (l2.length : Int)) = false := decide_eq_false c50
      clear c50
      obtain rfl := Option.some.inj H
      go_wp2
      repeat (go_quiet (fail); try go_wp2)
      go_ret
      exact ⟨by first | rfl | (simp [errW_none, errW_some] <;> rfl) | (simp [*, errW_none, errW_some] <;> rfl), by repeat (first | (with_reducible first | exact HB.out | apply below_alloc | apply pw_below_drewN | apply below_drew1 | refine below_set ?_ GE216.out) | exact HB.out)⟩
    rw [if_pos c50] at H
    have c50b0 : decide (x69_3 < (l2.length : Int)) = true := decide_eq_true c50
    clear c50
    by_cases c51 : 0 ≤ x69_3
    rotate_left
    · rw [if_neg c51] at H
      exact absurd H (by simp)
    rw [if_pos c51] at H
    have c51b0 : decide (0 ≤ x69_3) = true := decide_eq_true c51
    clear c51
    by_cases c52 : x69_3 < (l2.length : Int)
    rotate_left
    · rw [if_neg c52] at H
      exact absurd H (by simp)
    rw [if_pos c52] at H
    have c52b0 : decide (x69_3 < (l2.length : Int)) = true := decide_eq_true c52
    clear c52
    have HC53 := Aside0.mk H
    clear H
    have p231 : 0 ≤ (x69_3 : Int) := of_decide_eq_true (by first | (with_reducible assumption) | assumption)
    have q231 : x69_3 < (l2.length : Int) := of_decide_eq_true (by first | (with_reducible assumption) | assumption)
    obtain ⟨ad231, e231, hx231_0, hx231_1⟩ := at_T47 HR2.out x69_3 p231 q231
    cases e231
    replace hx231_0 := (HB.out.cell (World.block_lt_of_cell? w _ hx231_0)).trans hx231_0
    replace hx231_1 := (HB.out.cell (World.block_lt_of_cell? w _ hx231_1)).trans hx231_1
    replace p231 := eq_true p231
    replace q231 := eq_true q231
    go_upto_region 25 with ((with_reducible refine gate_dst (N := 14) rfl ?_); refine box_event ?hg (N := 14) ?hd (cs := #[.int .i64 0, .int .i64 0]) (t := 47) ?hr ?_; (case hd => rfl); (case hg => rfl); (case hr => first | (go_simp; done) | (go_simp; rfl)); intro gb232 hg w54 hbox hb; have n0_ := Aside0.mk (Kd.S_below (by (with_reducible repeat (first | apply Kd.S_alloc | apply Kd.S_drewN | apply Kd.S_drew)); exact HO_8.out) hb); have n1_ := Aside0.mk (blk_below (g := gb216) (o := .cells #[.int .i64 a0_0, .int .i64 a0_1, .int .i64 a0_2, .slice A0_3 l0_3.length c0_3, .slice A0_4 l0_4.length c0_4, .slice A0_5 l0_5.length c0_5] 57 (0, 0)) (by (with_reducible repeat (first | refine blk_drewN ?_ _ | refine blk_drew ?_ | refine blk_alloc ?_ _)); exact BK216.out) hb); have n2_ := Aside0.mk (below_step (by repeat (first | (with_reducible first | exact HB.out | apply below_alloc | apply pw_below_drewN | apply below_drew1 | refine below_set ?_ GE216.out) | exact HB.out)) hb); have n3_ := Aside0.mk (hbox); have n4_ := Aside0.mk ((by rw [hg]; exact (below_size (by repeat (first | (with_reducible first | exact HB.out | apply below_alloc | apply pw_below_drewN | apply below_drew1 | refine below_set ?_ GE216.out) | exact HB.out))) : w.heap.size ≤ gb232)); have n5_ := Aside0.mk ((by rw [hg]; exact (below_size (by repeat (first | (with_reducible first | exact HB.out | apply below_alloc | apply pw_below_drewN | apply below_drew1 | refine below_set ?_ GE216.out) | exact HB.out))) : w.heap.size ≤ gb232)); have n6_ := Aside0.mk ((by rw [hg]; exact Nat.ne_of_lt (blk_lt (g := gb216) (o := .cells #[.int .i64 a0_0, .int .i64 a0_1, .int .i64 a0_2, .slice A0_3 l0_3.length c0_3, .slice A0_4 l0_4.length c0_4, .slice A0_5 l0_5.length c0_5] 57 (0, 0)) (by (with_reducible repeat (first | refine blk_drewN ?_ _ | refine blk_drew ?_ | refine blk_alloc ?_ _)); exact BK216.out)) : gb216 ≠ gb232)); have n7_ := Aside0.mk ((by rw [hg]; exact Nat.ne_of_gt (blk_lt (g := gb216) (o := .cells #[.int .i64 a0_0, .int .i64 a0_1, .int .i64 a0_2, .slice A0_3 l0_3.length c0_3, .slice A0_4 l0_4.length c0_4, .slice A0_5 l0_5.length c0_5] 57 (0, 0)) (by (with_reducible repeat (first | refine blk_drewN ?_ _ | refine blk_drew ?_ | refine blk_alloc ?_ _)); exact BK216.out)) : gb232 ≠ gb216)); clear HO_8; clear BK216; clear HB; have HO_8 := n0_; have BK216 := n1_; have HB := n2_; have BK232 := n3_; have GW232 := n4_; have GE232 := n5_; have NB216_232 := n6_; have NB232_216 := n7_; clear n0_ n1_ n2_ n3_ n4_ n5_ n6_ n7_; clear hb hbox hg; have hcz56_0 : w54.cell? ⟨gb232, 0, none⟩ = some (.int .i64 0) := (blk_cell BK232.out 0).trans rfl; have hcz56_1 : w54.cell? ⟨gb232, 1, none⟩ = some (.int .i64 0) := (blk_cell BK232.out 1).trans rfl; have hfz56_0 := blk_frozen BK232.out 0; have hfz56_1 := blk_frozen BK232.out 1)
    repeat (go_quiet (fail); go_upto_region 25 with (fail))
    (try simp only [Act.put, List.setIfInBounds_toArray, List.set_cons_zero, List.set_cons_succ])
    go_cut [114] (fun v114 wc => ∃ (kq : Nat) (x114_52 : Bool), v114 = .bool x114_52 ∧ Aside0 (legal_Check.j4 kq l1 x8_3 x69_3 l2 (l2.length : Int) x69_3 x114_52 a0_0 a0_1 a0_2 l0_3 l0_4 l0_5 ((rd_T47 l2 x69_3).f0) ((rd_T47 l2 x69_3).f1) = some r) ∧ Aside0 (kq ≤ k3) ∧ Aside0 (Kd.S (Kd.slice 4 Kd.bool) 104 wc w.heap.size (fun _ => True) (.slice Ao19 x8_3.length co19) x8_3) ∧ Aside0 (wc.heap[gb216]? = some (.cells #[.int .i64 a0_0, .int .i64 a0_1, .int .i64 a0_2, (.slice A0_3 l0_3.length c0_3), (.slice A0_4 l0_4.length c0_4), (.slice A0_5 l0_5.length c0_5)] 57 (0, 0))) ∧ Aside0 (wc.heap[gb232]? = some (.cells #[.int .i64 ((rd_T47 l2 x69_3).f0), .int .i64 ((rd_T47 l2 x69_3).f1)] 47 (0, 0))) ∧ Aside0 (Below w.heap.size w wc))
    case first =>
     have H := HC53.out
     clear HC53
     by_cases c57 : x69_3 < (l1.length : Int)
     rotate_left
     · rw [if_neg c57] at H
       exact absurd H (by simp)
     rw [if_pos c57] at H
     have c57b0 : decide (x69_3 < (l1.length : Int)) = true := decide_eq_true c57
     clear c57
     (first | rw [c57b0] | (simp only [i64_w, i32_w]; rw [c57b0]) | skip)
     by_cases c58 : (rd l1 x69_3) < 1
     · rw [if_pos c58] at H
       have c58b0 : decide ((rd l1 x69_3) < 1) = true := decide_eq_true c58
       clear c58
       have H' := Aside0.mk H
       clear H
       have p233 : 0 ≤ (x69_3 : Int) := of_decide_eq_true (by first | (with_reducible assumption) | assumption)
       have q233 : x69_3 < (l1.length : Int) := of_decide_eq_true (by first | (with_reducible assumption) | assumption)
       obtain ⟨ad233, e233, hx233_0⟩ := Kd.at_int HR1.out x69_3 p233 q233
       cases e233
       have hn233_0 : ad233.block ≠ gb232 := Nat.ne_of_lt (Nat.lt_of_lt_of_le (by have := World.block_lt_of_cell? _ _ hx233_0; first | rwa [add_block] at this | exact this) GW232.out)
       have hn233_1 : ad233.block ≠ gb232 := Nat.ne_of_lt (Nat.lt_of_lt_of_le (by have := World.block_lt_of_cell? _ _ hx233_0; first | rwa [add_block] at this | exact this) GW232.out)
       replace hx233_0 := (HB.out.cell (World.block_lt_of_cell? w _ hx233_0)).trans hx233_0
       replace hx233_0 := (cell_far (p := ⟨gb232, 0, none⟩) (by first | (rw [add_block]; exact hn233_0) | (show (Addr.add _ _).block ≠ _; rw [add_block]; exact hn233_0) | exact hn233_0) (.int .i64 ((rd_T47 l2 x69_3).f0))).trans hx233_0
       replace hx233_0 := (cell_far (p := ⟨gb232, 1, none⟩) (by first | (rw [add_block]; exact hn233_1) | (show (Addr.add _ _).block ≠ _; rw [add_block]; exact hn233_1) | exact hn233_1) (.int .i64 ((rd_T47 l2 x69_3).f1))).trans hx233_0
       (try have hy233_0 := fun (n_ : Nat) => (show ((((w54.drewN n_).setCell ⟨gb232, 0, none⟩ (.int .i64 ((rd_T47 l2 x69_3).f0))).setCell ⟨gb232, 1, none⟩ (.int .i64 ((rd_T47 l2 x69_3).f1)))).cell? _ = some _ from hx233_0))
       clear hn233_0
       clear hn233_1
       replace p233 := eq_true p233
       replace q233 := eq_true q233
       go_wp2
       repeat (go_quiet (fail); try go_wp2)
       go_meet
       case rel => exact ⟨_, (true), (by first | rfl | (simp; done) | (simp [*]; done)), H', ⟨by have := HK1.out; have := HK2.out; have := HK3.out; first | omega | exact Nat.le_refl _⟩, ⟨by (try simp only [hl8_1]); (try simp only [hl8_2]); (try simp only [hl8_3]); (with_reducible repeat (first | apply Kd.S_alloc | apply Kd.S_drewN | apply Kd.S_drew)); exact Kd.S_mono (Kd.S_far (p := ⟨gb232, 1, none⟩) (Kd.S_far (p := ⟨gb232, 0, none⟩) (Kd.S_types HO_8.out BK232.out (by decide)) (fun _ hk => hk.2) (.int .i64 ((rd_T47 l2 x69_3).f0))) (fun _ hk => hk.2) (.int .i64 ((rd_T47 l2 x69_3).f1))) (fun _ hk => trivial)⟩, ⟨by (try simp only [hl8_1]); (try simp only [hl8_2]); (try simp only [hl8_3]); (with_reducible repeat (first | refine blk_drewN ?_ _ | refine blk_drew ?_ | refine blk_alloc ?_ _)); refine blk_far ?_ NB216_232.out _; (with_reducible repeat (first | refine blk_drewN ?_ _ | refine blk_drew ?_ | refine blk_alloc ?_ _)); refine blk_far ?_ NB216_232.out _; (with_reducible repeat (first | refine blk_drewN ?_ _ | refine blk_drew ?_ | refine blk_alloc ?_ _)); exact BK216.out⟩, ⟨by (try simp only [hl8_1]); (try simp only [hl8_2]); (try simp only [hl8_3]); (with_reducible repeat (first | refine blk_drewN ?_ _ | refine blk_drew ?_ | refine blk_alloc ?_ _)); refine blk_put (cs := #[.int .i64 ((rd_T47 l2 x69_3).f0), .int .i64 0]) ?_ 1 _ rfl; (with_reducible repeat (first | refine blk_drewN ?_ _ | refine blk_drew ?_ | refine blk_alloc ?_ _)); refine blk_put (cs := #[.int .i64 0, .int .i64 0]) ?_ 0 _ rfl; (with_reducible repeat (first | refine blk_drewN ?_ _ | refine blk_drew ?_ | refine blk_alloc ?_ _)); exact BK232.out⟩, ⟨by repeat (first | (with_reducible first | exact HB.out | apply below_alloc | apply pw_below_drewN | apply below_drew1 | refine below_set ?_ GE216.out | refine below_set ?_ GE232.out) | exact HB.out)⟩⟩
     rw [if_neg c58] at H
     have c58b0 : decide ((rd l1 x69_3) < 1) = false := decide_eq_false c58
     clear c58
     by_cases c59 : (rd l1 x69_3) > 40
     · rw [if_pos c59] at H
       have c59b0 : decide (40 < (rd l1 x69_3)) = true := decide_eq_true c59
       clear c59
       have H' := Aside0.mk H
       clear H
       have p233 : 0 ≤ (x69_3 : Int) := of_decide_eq_true (by first | (with_reducible assumption) | assumption)
       have q233 : x69_3 < (l1.length : Int) := of_decide_eq_true (by first | (with_reducible assumption) | assumption)
       obtain ⟨ad233, e233, hx233_0⟩ := Kd.at_int HR1.out x69_3 p233 q233
       cases e233
       have hn233_0 : ad233.block ≠ gb232 := Nat.ne_of_lt (Nat.lt_of_lt_of_le (by have := World.block_lt_of_cell? _ _ hx233_0; first | rwa [add_block] at this | exact this) GW232.out)
       have hn233_1 : ad233.block ≠ gb232 := Nat.ne_of_lt (Nat.lt_of_lt_of_le (by have := World.block_lt_of_cell? _ _ hx233_0; first | rwa [add_block] at this | exact this) GW232.out)
       replace hx233_0 := (HB.out.cell (World.block_lt_of_cell? w _ hx233_0)).trans hx233_0
       replace hx233_0 := (cell_far (p := ⟨gb232, 0, none⟩) (by first | (rw [add_block]; exact hn233_0) | (show (Addr.add _ _).block ≠ _; rw [add_block]; exact hn233_0) | exact hn233_0) (.int .i64 ((rd_T47 l2 x69_3).f0))).trans hx233_0
       replace hx233_0 := (cell_far (p := ⟨gb232, 1, none⟩) (by first | (rw [add_block]; exact hn233_1) | (show (Addr.add _ _).block ≠ _; rw [add_block]; exact hn233_1) | exact hn233_1) (.int .i64 ((rd_T47 l2 x69_3).f1))).trans hx233_0
       (try have hy233_0 := fun (n_ : Nat) => (show ((((w54.drewN n_).setCell ⟨gb232, 0, none⟩ (.int .i64 ((rd_T47 l2 x69_3).f0))).setCell ⟨gb232, 1, none⟩ (.int .i64 ((rd_T47 l2 x69_3).f1)))).cell? _ = some _ from hx233_0))
       clear hn233_0
       clear hn233_1
       replace p233 := eq_true p233
       replace q233 := eq_true q233
       have p234 : 0 ≤ (x69_3 : Int) := of_decide_eq_true (by first | (with_reducible assumption) | assumption)
       have q234 : x69_3 < (l1.length : Int) := of_decide_eq_true (by first | (with_reducible assumption) | assumption)
       obtain ⟨ad234, e234, hx234_0⟩ := Kd.at_int HR1.out x69_3 p234 q234
       obtain rfl : ad233 = ad234 := (by injection e234)
       have hn234_0 : ad233.block ≠ gb232 := Nat.ne_of_lt (Nat.lt_of_lt_of_le (by have := World.block_lt_of_cell? _ _ hx234_0; first | rwa [add_block] at this | exact this) GW232.out)
       have hn234_1 : ad233.block ≠ gb232 := Nat.ne_of_lt (Nat.lt_of_lt_of_le (by have := World.block_lt_of_cell? _ _ hx234_0; first | rwa [add_block] at this | exact this) GW232.out)
       replace hx234_0 := (HB.out.cell (World.block_lt_of_cell? w _ hx234_0)).trans hx234_0
       replace hx234_0 := (cell_far (p := ⟨gb232, 0, none⟩) (by first | (rw [add_block]; exact hn234_0) | (show (Addr.add _ _).block ≠ _; rw [add_block]; exact hn234_0) | exact hn234_0) (.int .i64 ((rd_T47 l2 x69_3).f0))).trans hx234_0
       replace hx234_0 := (cell_far (p := ⟨gb232, 1, none⟩) (by first | (rw [add_block]; exact hn234_1) | (show (Addr.add _ _).block ≠ _; rw [add_block]; exact hn234_1) | exact hn234_1) (.int .i64 ((rd_T47 l2 x69_3).f1))).trans hx234_0
       (try have hy234_0 := fun (n_ : Nat) => (show ((((w54.drewN n_).setCell ⟨gb232, 0, none⟩ (.int .i64 ((rd_T47 l2 x69_3).f0))).setCell ⟨gb232, 1, none⟩ (.int .i64 ((rd_T47 l2 x69_3).f1)))).cell? _ = some _ from hx234_0))
       clear hn234_0
       clear hn234_1
       replace p234 := eq_true p234
       replace q234 := eq_true q234
       go_wp2
       repeat (go_quiet (fail); try go_wp2)
       go_meet
       case rel => exact ⟨_, (true), (by first | rfl | (simp; done) | (simp [*]; done)), H', ⟨by have := HK1.out; have := HK2.out; have := HK3.out; first | omega | exact Nat.le_refl _⟩, ⟨by (try simp only [hl8_1]); (try simp only [hl8_2]); (try simp only [hl8_3]); (with_reducible repeat (first | apply Kd.S_alloc | apply Kd.S_drewN | apply Kd.S_drew)); exact Kd.S_mono (Kd.S_far (p := ⟨gb232, 1, none⟩) (Kd.S_far (p := ⟨gb232, 0, none⟩) (Kd.S_types HO_8.out BK232.out (by decide)) (fun _ hk => hk.2) (.int .i64 ((rd_T47 l2 x69_3).f0))) (fun _ hk => hk.2) (.int .i64 ((rd_T47 l2 x69_3).f1))) (fun _ hk => trivial)⟩, ⟨by (try simp only [hl8_1]); (try simp only [hl8_2]); (try simp only [hl8_3]); (with_reducible repeat (first | refine blk_drewN ?_ _ | refine blk_drew ?_ | refine blk_alloc ?_ _)); refine blk_far ?_ NB216_232.out _; (with_reducible repeat (first | refine blk_drewN ?_ _ | refine blk_drew ?_ | refine blk_alloc ?_ _)); refine blk_far ?_ NB216_232.out _; (with_reducible repeat (first | refine blk_drewN ?_ _ | refine blk_drew ?_ | refine blk_alloc ?_ _)); exact BK216.out⟩, ⟨by (try simp only [hl8_1]); (try simp only [hl8_2]); (try simp only [hl8_3]); (with_reducible repeat (first | refine blk_drewN ?_ _ | refine blk_drew ?_ | refine blk_alloc ?_ _)); refine blk_put (cs := #[.int .i64 ((rd_T47 l2 x69_3).f0), .int .i64 0]) ?_ 1 _ rfl; (with_reducible repeat (first | refine blk_drewN ?_ _ | refine blk_drew ?_ | refine blk_alloc ?_ _)); refine blk_put (cs := #[.int .i64 0, .int .i64 0]) ?_ 0 _ rfl; (with_reducible repeat (first | refine blk_drewN ?_ _ | refine blk_drew ?_ | refine blk_alloc ?_ _)); exact BK232.out⟩, ⟨by repeat (first | (with_reducible first | exact HB.out | apply below_alloc | apply pw_below_drewN | apply below_drew1 | refine below_set ?_ GE216.out | refine below_set ?_ GE232.out) | exact HB.out)⟩⟩
     rw [if_neg c59] at H
     have c59b0 : decide (40 < (rd l1 x69_3)) = false := decide_eq_false c59
     clear c59
     by_cases c60 : ((rd_T47 l2 x69_3).f0) < 0
     · rw [if_pos c60] at H
       have c60b0 : decide (((rd_T47 l2 x69_3).f0) < 0) = true := decide_eq_true c60
       clear c60
       have H' := Aside0.mk H
       clear H
       have p233 : 0 ≤ (x69_3 : Int) := of_decide_eq_true (by first | (with_reducible assumption) | assumption)
       have q233 : x69_3 < (l1.length : Int) := of_decide_eq_true (by first | (with_reducible assumption) | assumption)
       obtain ⟨ad233, e233, hx233_0⟩ := Kd.at_int HR1.out x69_3 p233 q233
       cases e233
       have hn233_0 : ad233.block ≠ gb232 := Nat.ne_of_lt (Nat.lt_of_lt_of_le (by have := World.block_lt_of_cell? _ _ hx233_0; first | rwa [add_block] at this | exact this) GW232.out)
       have hn233_1 : ad233.block ≠ gb232 := Nat.ne_of_lt (Nat.lt_of_lt_of_le (by have := World.block_lt_of_cell? _ _ hx233_0; first | rwa [add_block] at this | exact this) GW232.out)
       replace hx233_0 := (HB.out.cell (World.block_lt_of_cell? w _ hx233_0)).trans hx233_0
       replace hx233_0 := (cell_far (p := ⟨gb232, 0, none⟩) (by first | (rw [add_block]; exact hn233_0) | (show (Addr.add _ _).block ≠ _; rw [add_block]; exact hn233_0) | exact hn233_0) (.int .i64 ((rd_T47 l2 x69_3).f0))).trans hx233_0
       replace hx233_0 := (cell_far (p := ⟨gb232, 1, none⟩) (by first | (rw [add_block]; exact hn233_1) | (show (Addr.add _ _).block ≠ _; rw [add_block]; exact hn233_1) | exact hn233_1) (.int .i64 ((rd_T47 l2 x69_3).f1))).trans hx233_0
       (try have hy233_0 := fun (n_ : Nat) => (show ((((w54.drewN n_).setCell ⟨gb232, 0, none⟩ (.int .i64 ((rd_T47 l2 x69_3).f0))).setCell ⟨gb232, 1, none⟩ (.int .i64 ((rd_T47 l2 x69_3).f1)))).cell? _ = some _ from hx233_0))
       clear hn233_0
       clear hn233_1
       replace p233 := eq_true p233
       replace q233 := eq_true q233
       have p234 : 0 ≤ (x69_3 : Int) := of_decide_eq_true (by first | (with_reducible assumption) | assumption)
       have q234 : x69_3 < (l1.length : Int) := of_decide_eq_true (by first | (with_reducible assumption) | assumption)
       obtain ⟨ad234, e234, hx234_0⟩ := Kd.at_int HR1.out x69_3 p234 q234
       obtain rfl : ad233 = ad234 := (by injection e234)
       have hn234_0 : ad233.block ≠ gb232 := Nat.ne_of_lt (Nat.lt_of_lt_of_le (by have := World.block_lt_of_cell? _ _ hx234_0; first | rwa [add_block] at this | exact this) GW232.out)
       have hn234_1 : ad233.block ≠ gb232 := Nat.ne_of_lt (Nat.lt_of_lt_of_le (by have := World.block_lt_of_cell? _ _ hx234_0; first | rwa [add_block] at this | exact this) GW232.out)
       replace hx234_0 := (HB.out.cell (World.block_lt_of_cell? w _ hx234_0)).trans hx234_0
       replace hx234_0 := (cell_far (p := ⟨gb232, 0, none⟩) (by first | (rw [add_block]; exact hn234_0) | (show (Addr.add _ _).block ≠ _; rw [add_block]; exact hn234_0) | exact hn234_0) (.int .i64 ((rd_T47 l2 x69_3).f0))).trans hx234_0
       replace hx234_0 := (cell_far (p := ⟨gb232, 1, none⟩) (by first | (rw [add_block]; exact hn234_1) | (show (Addr.add _ _).block ≠ _; rw [add_block]; exact hn234_1) | exact hn234_1) (.int .i64 ((rd_T47 l2 x69_3).f1))).trans hx234_0
       (try have hy234_0 := fun (n_ : Nat) => (show ((((w54.drewN n_).setCell ⟨gb232, 0, none⟩ (.int .i64 ((rd_T47 l2 x69_3).f0))).setCell ⟨gb232, 1, none⟩ (.int .i64 ((rd_T47 l2 x69_3).f1)))).cell? _ = some _ from hx234_0))
       clear hn234_0
       clear hn234_1
       replace p234 := eq_true p234
       replace q234 := eq_true q234
       go_wp2
       repeat (go_quiet (fail); try go_wp2)
       go_meet
       case rel => exact ⟨_, (true), (by first | rfl | (simp; done) | (simp [*]; done)), H', ⟨by have := HK1.out; have := HK2.out; have := HK3.out; first | omega | exact Nat.le_refl _⟩, ⟨by (try simp only [hl8_1]); (try simp only [hl8_2]); (try simp only [hl8_3]); (with_reducible repeat (first | apply Kd.S_alloc | apply Kd.S_drewN | apply Kd.S_drew)); exact Kd.S_mono (Kd.S_far (p := ⟨gb232, 1, none⟩) (Kd.S_far (p := ⟨gb232, 0, none⟩) (Kd.S_types HO_8.out BK232.out (by decide)) (fun _ hk => hk.2) (.int .i64 ((rd_T47 l2 x69_3).f0))) (fun _ hk => hk.2) (.int .i64 ((rd_T47 l2 x69_3).f1))) (fun _ hk => trivial)⟩, ⟨by (try simp only [hl8_1]); (try simp only [hl8_2]); (try simp only [hl8_3]); (with_reducible repeat (first | refine blk_drewN ?_ _ | refine blk_drew ?_ | refine blk_alloc ?_ _)); refine blk_far ?_ NB216_232.out _; (with_reducible repeat (first | refine blk_drewN ?_ _ | refine blk_drew ?_ | refine blk_alloc ?_ _)); refine blk_far ?_ NB216_232.out _; (with_reducible repeat (first | refine blk_drewN ?_ _ | refine blk_drew ?_ | refine blk_alloc ?_ _)); exact BK216.out⟩, ⟨by (try simp only [hl8_1]); (try simp only [hl8_2]); (try simp only [hl8_3]); (with_reducible repeat (first | refine blk_drewN ?_ _ | refine blk_drew ?_ | refine blk_alloc ?_ _)); refine blk_put (cs := #[.int .i64 ((rd_T47 l2 x69_3).f0), .int .i64 0]) ?_ 1 _ rfl; (with_reducible repeat (first | refine blk_drewN ?_ _ | refine blk_drew ?_ | refine blk_alloc ?_ _)); refine blk_put (cs := #[.int .i64 0, .int .i64 0]) ?_ 0 _ rfl; (with_reducible repeat (first | refine blk_drewN ?_ _ | refine blk_drew ?_ | refine blk_alloc ?_ _)); exact BK232.out⟩, ⟨by repeat (first | (with_reducible first | exact HB.out | apply below_alloc | apply pw_below_drewN | apply below_drew1 | refine below_set ?_ GE216.out | refine below_set ?_ GE232.out) | exact HB.out)⟩⟩
     rw [if_neg c60] at H
     have c60b0 : decide (((rd_T47 l2 x69_3).f0) < 0) = false := decide_eq_false c60
     clear c60
     by_cases c63 : ((rd_T47 l2 x69_3).f0) ≥ a0_0
     · rw [if_pos c63] at H
       have c63b0 : decide (a0_0 ≤ ((rd_T47 l2 x69_3).f0)) = true := decide_eq_true c63
       clear c63
       have H' := Aside0.mk H
       clear H
       have p233 : 0 ≤ (x69_3 : Int) := of_decide_eq_true (by first | (with_reducible assumption) | assumption)
       have q233 : x69_3 < (l1.length : Int) := of_decide_eq_true (by first | (with_reducible assumption) | assumption)
       obtain ⟨ad233, e233, hx233_0⟩ := Kd.at_int HR1.out x69_3 p233 q233
       cases e233
       have hn233_0 : ad233.block ≠ gb232 := Nat.ne_of_lt (Nat.lt_of_lt_of_le (by have := World.block_lt_of_cell? _ _ hx233_0; first | rwa [add_block] at this | exact this) GW232.out)
       have hn233_1 : ad233.block ≠ gb232 := Nat.ne_of_lt (Nat.lt_of_lt_of_le (by have := World.block_lt_of_cell? _ _ hx233_0; first | rwa [add_block] at this | exact this) GW232.out)
       replace hx233_0 := (HB.out.cell (World.block_lt_of_cell? w _ hx233_0)).trans hx233_0
       replace hx233_0 := (cell_far (p := ⟨gb232, 0, none⟩) (by first | (rw [add_block]; exact hn233_0) | (show (Addr.add _ _).block ≠ _; rw [add_block]; exact hn233_0) | exact hn233_0) (.int .i64 ((rd_T47 l2 x69_3).f0))).trans hx233_0
       replace hx233_0 := (cell_far (p := ⟨gb232, 1, none⟩) (by first | (rw [add_block]; exact hn233_1) | (show (Addr.add _ _).block ≠ _; rw [add_block]; exact hn233_1) | exact hn233_1) (.int .i64 ((rd_T47 l2 x69_3).f1))).trans hx233_0
       (try have hy233_0 := fun (n_ : Nat) => (show ((((w54.drewN n_).setCell ⟨gb232, 0, none⟩ (.int .i64 ((rd_T47 l2 x69_3).f0))).setCell ⟨gb232, 1, none⟩ (.int .i64 ((rd_T47 l2 x69_3).f1)))).cell? _ = some _ from hx233_0))
       clear hn233_0
       clear hn233_1
       replace p233 := eq_true p233
       replace q233 := eq_true q233
       have p234 : 0 ≤ (x69_3 : Int) := of_decide_eq_true (by first | (with_reducible assumption) | assumption)
       have q234 : x69_3 < (l1.length : Int) := of_decide_eq_true (by first | (with_reducible assumption) | assumption)
       obtain ⟨ad234, e234, hx234_0⟩ := Kd.at_int HR1.out x69_3 p234 q234
       obtain rfl : ad233 = ad234 := (by injection e234)
       have hn234_0 : ad233.block ≠ gb232 := Nat.ne_of_lt (Nat.lt_of_lt_of_le (by have := World.block_lt_of_cell? _ _ hx234_0; first | rwa [add_block] at this | exact this) GW232.out)
       have hn234_1 : ad233.block ≠ gb232 := Nat.ne_of_lt (Nat.lt_of_lt_of_le (by have := World.block_lt_of_cell? _ _ hx234_0; first | rwa [add_block] at this | exact this) GW232.out)
       replace hx234_0 := (HB.out.cell (World.block_lt_of_cell? w _ hx234_0)).trans hx234_0
       replace hx234_0 := (cell_far (p := ⟨gb232, 0, none⟩) (by first | (rw [add_block]; exact hn234_0) | (show (Addr.add _ _).block ≠ _; rw [add_block]; exact hn234_0) | exact hn234_0) (.int .i64 ((rd_T47 l2 x69_3).f0))).trans hx234_0
       replace hx234_0 := (cell_far (p := ⟨gb232, 1, none⟩) (by first | (rw [add_block]; exact hn234_1) | (show (Addr.add _ _).block ≠ _; rw [add_block]; exact hn234_1) | exact hn234_1) (.int .i64 ((rd_T47 l2 x69_3).f1))).trans hx234_0
       (try have hy234_0 := fun (n_ : Nat) => (show ((((w54.drewN n_).setCell ⟨gb232, 0, none⟩ (.int .i64 ((rd_T47 l2 x69_3).f0))).setCell ⟨gb232, 1, none⟩ (.int .i64 ((rd_T47 l2 x69_3).f1)))).cell? _ = some _ from hx234_0))
       clear hn234_0
       clear hn234_1
       replace p234 := eq_true p234
       replace q234 := eq_true q234
       have hnc64 := NB216_232.out
       have hcz66_0 : w54.cell? ⟨gb216, 0, none⟩ = some (.int .i64 a0_0) := (blk_cell BK216.out 0).trans rfl
       go_wp2
       repeat (go_quiet (fail); try go_wp2)
       go_meet
       case rel => exact ⟨_, (true), (by first | rfl | (simp; done) | (simp [*]; done)), H', ⟨by have := HK1.out; have := HK2.out; have := HK3.out; first | omega | exact Nat.le_refl _⟩, ⟨by (try simp only [hl8_1]); (try simp only [hl8_2]); (try simp only [hl8_3]); (with_reducible repeat (first | apply Kd.S_alloc | apply Kd.S_drewN | apply Kd.S_drew)); exact Kd.S_mono (Kd.S_far (p := ⟨gb232, 1, none⟩) (Kd.S_far (p := ⟨gb232, 0, none⟩) (Kd.S_types HO_8.out BK232.out (by decide)) (fun _ hk => hk.2) (.int .i64 ((rd_T47 l2 x69_3).f0))) (fun _ hk => hk.2) (.int .i64 ((rd_T47 l2 x69_3).f1))) (fun _ hk => trivial)⟩, ⟨by (try simp only [hl8_1]); (try simp only [hl8_2]); (try simp only [hl8_3]); (with_reducible repeat (first | refine blk_drewN ?_ _ | refine blk_drew ?_ | refine blk_alloc ?_ _)); refine blk_far ?_ NB216_232.out _; (with_reducible repeat (first | refine blk_drewN ?_ _ | refine blk_drew ?_ | refine blk_alloc ?_ _)); refine blk_far ?_ NB216_232.out _; (with_reducible repeat (first | refine blk_drewN ?_ _ | refine blk_drew ?_ | refine blk_alloc ?_ _)); exact BK216.out⟩, ⟨by (try simp only [hl8_1]); (try simp only [hl8_2]); (try simp only [hl8_3]); (with_reducible repeat (first | refine blk_drewN ?_ _ | refine blk_drew ?_ | refine blk_alloc ?_ _)); refine blk_put (cs := #[.int .i64 ((rd_T47 l2 x69_3).f0), .int .i64 0]) ?_ 1 _ rfl; (with_reducible repeat (first | refine blk_drewN ?_ _ | refine blk_drew ?_ | refine blk_alloc ?_ _)); refine blk_put (cs := #[.int .i64 0, .int .i64 0]) ?_ 0 _ rfl; (with_reducible repeat (first | refine blk_drewN ?_ _ | refine blk_drew ?_ | refine blk_alloc ?_ _)); exact BK232.out⟩, ⟨by repeat (first | (with_reducible first | exact HB.out | apply below_alloc | apply pw_below_drewN | apply below_drew1 | refine below_set ?_ GE216.out | refine below_set ?_ GE232.out) | exact HB.out)⟩⟩
     rw [if_neg c63] at H
     have c63b0 : decide (a0_0 ≤ ((rd_T47 l2 x69_3).f0)) = false := decide_eq_false c63
     clear c63
     by_cases c67 : ((rd_T47 l2 x69_3).f1) < 0
     · rw [if_pos c67] at H
       have c67b0 : decide (((rd_T47 l2 x69_3).f1) < 0) = true := decide_eq_true c67
       clear c67
       have H' := Aside0.mk H
       clear H
       have p233 : 0 ≤ (x69_3 : Int) := of_decide_eq_true (by first | (with_reducible assumption) | assumption)
       have q233 : x69_3 < (l1.length : Int) := of_decide_eq_true (by first | (with_reducible assumption) | assumption)
       obtain ⟨ad233, e233, hx233_0⟩ := Kd.at_int HR1.out x69_3 p233 q233
       cases e233
       have hn233_0 : ad233.block ≠ gb232 := Nat.ne_of_lt (Nat.lt_of_lt_of_le (by have := World.block_lt_of_cell? _ _ hx233_0; first | rwa [add_block] at this | exact this) GW232.out)
       have hn233_1 : ad233.block ≠ gb232 := Nat.ne_of_lt (Nat.lt_of_lt_of_le (by have := World.block_lt_of_cell? _ _ hx233_0; first | rwa [add_block] at this | exact this) GW232.out)
       replace hx233_0 := (HB.out.cell (World.block_lt_of_cell? w _ hx233_0)).trans hx233_0
       replace hx233_0 := (cell_far (p := ⟨gb232, 0, none⟩) (by first | (rw [add_block]; exact hn233_0) | (show (Addr.add _ _).block ≠ _; rw [add_block]; exact hn233_0) | exact hn233_0) (.int .i64 ((rd_T47 l2 x69_3).f0))).trans hx233_0
       replace hx233_0 := (cell_far (p := ⟨gb232, 1, none⟩) (by first | (rw [add_block]; exact hn233_1) | (show (Addr.add _ _).block ≠ _; rw [add_block]; exact hn233_1) | exact hn233_1) (.int .i64 ((rd_T47 l2 x69_3).f1))).trans hx233_0
       (try have hy233_0 := fun (n_ : Nat) => (show ((((w54.drewN n_).setCell ⟨gb232, 0, none⟩ (.int .i64 ((rd_T47 l2 x69_3).f0))).setCell ⟨gb232, 1, none⟩ (.int .i64 ((rd_T47 l2 x69_3).f1)))).cell? _ = some _ from hx233_0))
       clear hn233_0
       clear hn233_1
       replace p233 := eq_true p233
       replace q233 := eq_true q233
       have p234 : 0 ≤ (x69_3 : Int) := of_decide_eq_true (by first | (with_reducible assumption) | assumption)
       have q234 : x69_3 < (l1.length : Int) := of_decide_eq_true (by first | (with_reducible assumption) | assumption)
       obtain ⟨ad234, e234, hx234_0⟩ := Kd.at_int HR1.out x69_3 p234 q234
       obtain rfl : ad233 = ad234 := (by injection e234)
       have hn234_0 : ad233.block ≠ gb232 := Nat.ne_of_lt (Nat.lt_of_lt_of_le (by have := World.block_lt_of_cell? _ _ hx234_0; first | rwa [add_block] at this | exact this) GW232.out)
       have hn234_1 : ad233.block ≠ gb232 := Nat.ne_of_lt (Nat.lt_of_lt_of_le (by have := World.block_lt_of_cell? _ _ hx234_0; first | rwa [add_block] at this | exact this) GW232.out)
       replace hx234_0 := (HB.out.cell (World.block_lt_of_cell? w _ hx234_0)).trans hx234_0
       replace hx234_0 := (cell_far (p := ⟨gb232, 0, none⟩) (by first | (rw [add_block]; exact hn234_0) | (show (Addr.add _ _).block ≠ _; rw [add_block]; exact hn234_0) | exact hn234_0) (.int .i64 ((rd_T47 l2 x69_3).f0))).trans hx234_0
       replace hx234_0 := (cell_far (p := ⟨gb232, 1, none⟩) (by first | (rw [add_block]; exact hn234_1) | (show (Addr.add _ _).block ≠ _; rw [add_block]; exact hn234_1) | exact hn234_1) (.int .i64 ((rd_T47 l2 x69_3).f1))).trans hx234_0
       (try have hy234_0 := fun (n_ : Nat) => (show ((((w54.drewN n_).setCell ⟨gb232, 0, none⟩ (.int .i64 ((rd_T47 l2 x69_3).f0))).setCell ⟨gb232, 1, none⟩ (.int .i64 ((rd_T47 l2 x69_3).f1)))).cell? _ = some _ from hx234_0))
       clear hn234_0
       clear hn234_1
       replace p234 := eq_true p234
       replace q234 := eq_true q234
       have hnc68 := NB216_232.out
       have hcz70_0 : w54.cell? ⟨gb216, 0, none⟩ = some (.int .i64 a0_0) := (blk_cell BK216.out 0).trans rfl
       go_wp2
       repeat (go_quiet (fail); try go_wp2)
       go_meet
       case rel => exact ⟨_, (true), (by first | rfl | (simp; done) | (simp [*]; done)), H', ⟨by have := HK1.out; have := HK2.out; have := HK3.out; first | omega | exact Nat.le_refl _⟩, ⟨by (try simp only [hl8_1]); (try simp only [hl8_2]); (try simp only [hl8_3]); (with_reducible repeat (first | apply Kd.S_alloc | apply Kd.S_drewN | apply Kd.S_drew)); exact Kd.S_mono (Kd.S_far (p := ⟨gb232, 1, none⟩) (Kd.S_far (p := ⟨gb232, 0, none⟩) (Kd.S_types HO_8.out BK232.out (by decide)) (fun _ hk => hk.2) (.int .i64 ((rd_T47 l2 x69_3).f0))) (fun _ hk => hk.2) (.int .i64 ((rd_T47 l2 x69_3).f1))) (fun _ hk => trivial)⟩, ⟨by (try simp only [hl8_1]); (try simp only [hl8_2]); (try simp only [hl8_3]); (with_reducible repeat (first | refine blk_drewN ?_ _ | refine blk_drew ?_ | refine blk_alloc ?_ _)); refine blk_far ?_ NB216_232.out _; (with_reducible repeat (first | refine blk_drewN ?_ _ | refine blk_drew ?_ | refine blk_alloc ?_ _)); refine blk_far ?_ NB216_232.out _; (with_reducible repeat (first | refine blk_drewN ?_ _ | refine blk_drew ?_ | refine blk_alloc ?_ _)); exact BK216.out⟩, ⟨by (try simp only [hl8_1]); (try simp only [hl8_2]); (try simp only [hl8_3]); (with_reducible repeat (first | refine blk_drewN ?_ _ | refine blk_drew ?_ | refine blk_alloc ?_ _)); refine blk_put (cs := #[.int .i64 ((rd_T47 l2 x69_3).f0), .int .i64 0]) ?_ 1 _ rfl; (with_reducible repeat (first | refine blk_drewN ?_ _ | refine blk_drew ?_ | refine blk_alloc ?_ _)); refine blk_put (cs := #[.int .i64 0, .int .i64 0]) ?_ 0 _ rfl; (with_reducible repeat (first | refine blk_drewN ?_ _ | refine blk_drew ?_ | refine blk_alloc ?_ _)); exact BK232.out⟩, ⟨by repeat (first | (with_reducible first | exact HB.out | apply below_alloc | apply pw_below_drewN | apply below_drew1 | refine below_set ?_ GE216.out | refine below_set ?_ GE232.out) | exact HB.out)⟩⟩
     rw [if_neg c67] at H
     have c67b0 : decide (((rd_T47 l2 x69_3).f1) < 0) = false := decide_eq_false c67
     clear c67
     have H' := Aside0.mk H
     clear H
     have p233 : 0 ≤ (x69_3 : Int) := of_decide_eq_true (by first | (with_reducible assumption) | assumption)
     have q233 : x69_3 < (l1.length : Int) := of_decide_eq_true (by first | (with_reducible assumption) | assumption)
     obtain ⟨ad233, e233, hx233_0⟩ := Kd.at_int HR1.out x69_3 p233 q233
     cases e233
     have hn233_0 : ad233.block ≠ gb232 := Nat.ne_of_lt (Nat.lt_of_lt_of_le (by have := World.block_lt_of_cell? _ _ hx233_0; first | rwa [add_block] at this | exact this) GW232.out)
     have hn233_1 : ad233.block ≠ gb232 := Nat.ne_of_lt (Nat.lt_of_lt_of_le (by have := World.block_lt_of_cell? _ _ hx233_0; first | rwa [add_block] at this | exact this) GW232.out)
     replace hx233_0 := (HB.out.cell (World.block_lt_of_cell? w _ hx233_0)).trans hx233_0
     replace hx233_0 := (cell_far (p := ⟨gb232, 0, none⟩) (by first | (rw [add_block]; exact hn233_0) | (show (Addr.add _ _).block ≠ _; rw [add_block]; exact hn233_0) | exact hn233_0) (.int .i64 ((rd_T47 l2 x69_3).f0))).trans hx233_0
     replace hx233_0 := (cell_far (p := ⟨gb232, 1, none⟩) (by first | (rw [add_block]; exact hn233_1) | (show (Addr.add _ _).block ≠ _; rw [add_block]; exact hn233_1) | exact hn233_1) (.int .i64 ((rd_T47 l2 x69_3).f1))).trans hx233_0
     (try have hy233_0 := fun (n_ : Nat) => (show ((((w54.drewN n_).setCell ⟨gb232, 0, none⟩ (.int .i64 ((rd_T47 l2 x69_3).f0))).setCell ⟨gb232, 1, none⟩ (.int .i64 ((rd_T47 l2 x69_3).f1)))).cell? _ = some _ from hx233_0))
     clear hn233_0
     clear hn233_1
     replace p233 := eq_true p233
     replace q233 := eq_true q233
     have p234 : 0 ≤ (x69_3 : Int) := of_decide_eq_true (by first | (with_reducible assumption) | assumption)
     have q234 : x69_3 < (l1.length : Int) := of_decide_eq_true (by first | (with_reducible assumption) | assumption)
     obtain ⟨ad234, e234, hx234_0⟩ := Kd.at_int HR1.out x69_3 p234 q234
     obtain rfl : ad233 = ad234 := (by injection e234)
     have hn234_0 : ad233.block ≠ gb232 := Nat.ne_of_lt (Nat.lt_of_lt_of_le (by have := World.block_lt_of_cell? _ _ hx234_0; first | rwa [add_block] at this | exact this) GW232.out)
     have hn234_1 : ad233.block ≠ gb232 := Nat.ne_of_lt (Nat.lt_of_lt_of_le (by have := World.block_lt_of_cell? _ _ hx234_0; first | rwa [add_block] at this | exact this) GW232.out)
     replace hx234_0 := (HB.out.cell (World.block_lt_of_cell? w _ hx234_0)).trans hx234_0
     replace hx234_0 := (cell_far (p := ⟨gb232, 0, none⟩) (by first | (rw [add_block]; exact hn234_0) | (show (Addr.add _ _).block ≠ _; rw [add_block]; exact hn234_0) | exact hn234_0) (.int .i64 ((rd_T47 l2 x69_3).f0))).trans hx234_0
     replace hx234_0 := (cell_far (p := ⟨gb232, 1, none⟩) (by first | (rw [add_block]; exact hn234_1) | (show (Addr.add _ _).block ≠ _; rw [add_block]; exact hn234_1) | exact hn234_1) (.int .i64 ((rd_T47 l2 x69_3).f1))).trans hx234_0
     (try have hy234_0 := fun (n_ : Nat) => (show ((((w54.drewN n_).setCell ⟨gb232, 0, none⟩ (.int .i64 ((rd_T47 l2 x69_3).f0))).setCell ⟨gb232, 1, none⟩ (.int .i64 ((rd_T47 l2 x69_3).f1)))).cell? _ = some _ from hx234_0))
     clear hn234_0
     clear hn234_1
     replace p234 := eq_true p234
     replace q234 := eq_true q234
     have hnc71 := NB216_232.out
     have hcz73_0 : w54.cell? ⟨gb216, 0, none⟩ = some (.int .i64 a0_0) := (blk_cell BK216.out 0).trans rfl
     have hcz73_1 : w54.cell? ⟨gb216, 1, none⟩ = some (.int .i64 a0_1) := (blk_cell BK216.out 1).trans rfl
     have p235 : 0 ≤ (x69_3 : Int) := of_decide_eq_true (by first | (with_reducible assumption) | assumption)
     have q235 : x69_3 < (l1.length : Int) := of_decide_eq_true (by first | (with_reducible assumption) | assumption)
     obtain ⟨ad235, e235, hx235_0⟩ := Kd.at_int HR1.out x69_3 p235 q235
     obtain rfl : ad233 = ad235 := (by injection e235)
     have hn235_0 : ad233.block ≠ gb232 := Nat.ne_of_lt (Nat.lt_of_lt_of_le (by have := World.block_lt_of_cell? _ _ hx235_0; first | rwa [add_block] at this | exact this) GW232.out)
     have hn235_1 : ad233.block ≠ gb232 := Nat.ne_of_lt (Nat.lt_of_lt_of_le (by have := World.block_lt_of_cell? _ _ hx235_0; first | rwa [add_block] at this | exact this) GW232.out)
     replace hx235_0 := (HB.out.cell (World.block_lt_of_cell? w _ hx235_0)).trans hx235_0
     replace hx235_0 := (cell_far (p := ⟨gb232, 0, none⟩) (by first | (rw [add_block]; exact hn235_0) | (show (Addr.add _ _).block ≠ _; rw [add_block]; exact hn235_0) | exact hn235_0) (.int .i64 ((rd_T47 l2 x69_3).f0))).trans hx235_0
     replace hx235_0 := (cell_far (p := ⟨gb232, 1, none⟩) (by first | (rw [add_block]; exact hn235_1) | (show (Addr.add _ _).block ≠ _; rw [add_block]; exact hn235_1) | exact hn235_1) (.int .i64 ((rd_T47 l2 x69_3).f1))).trans hx235_0
     (try have hy235_0 := fun (n_ : Nat) => (show ((((w54.drewN n_).setCell ⟨gb232, 0, none⟩ (.int .i64 ((rd_T47 l2 x69_3).f0))).setCell ⟨gb232, 1, none⟩ (.int .i64 ((rd_T47 l2 x69_3).f1)))).cell? _ = some _ from hx235_0))
     clear hn235_0
     clear hn235_1
     replace p235 := eq_true p235
     replace q235 := eq_true q235
     go_wp2
     repeat (go_quiet (fail); try go_wp2)
     go_meet
     case rel => exact ⟨_, (decide (((rd_T47 l2 x69_3).f1) > (wrap64 (a0_1 - (rd l1 x69_3))))), (by first | rfl | (simp; done) | (simp [*]; done)), H', ⟨by have := HK1.out; have := HK2.out; have := HK3.out; first | omega | exact Nat.le_refl _⟩, ⟨by (try simp only [hl8_1]); (try simp only [hl8_2]); (try simp only [hl8_3]); (with_reducible repeat (first | apply Kd.S_alloc | apply Kd.S_drewN | apply Kd.S_drew)); exact Kd.S_mono (Kd.S_far (p := ⟨gb232, 1, none⟩) (Kd.S_far (p := ⟨gb232, 0, none⟩) (Kd.S_types HO_8.out BK232.out (by decide)) (fun _ hk => hk.2) (.int .i64 ((rd_T47 l2 x69_3).f0))) (fun _ hk => hk.2) (.int .i64 ((rd_T47 l2 x69_3).f1))) (fun _ hk => trivial)⟩, ⟨by (try simp only [hl8_1]); (try simp only [hl8_2]); (try simp only [hl8_3]); (with_reducible repeat (first | refine blk_drewN ?_ _ | refine blk_drew ?_ | refine blk_alloc ?_ _)); refine blk_far ?_ NB216_232.out _; (with_reducible repeat (first | refine blk_drewN ?_ _ | refine blk_drew ?_ | refine blk_alloc ?_ _)); refine blk_far ?_ NB216_232.out _; (with_reducible repeat (first | refine blk_drewN ?_ _ | refine blk_drew ?_ | refine blk_alloc ?_ _)); exact BK216.out⟩, ⟨by (try simp only [hl8_1]); (try simp only [hl8_2]); (try simp only [hl8_3]); (with_reducible repeat (first | refine blk_drewN ?_ _ | refine blk_drew ?_ | refine blk_alloc ?_ _)); refine blk_put (cs := #[.int .i64 ((rd_T47 l2 x69_3).f0), .int .i64 0]) ?_ 1 _ rfl; (with_reducible repeat (first | refine blk_drewN ?_ _ | refine blk_drew ?_ | refine blk_alloc ?_ _)); refine blk_put (cs := #[.int .i64 0, .int .i64 0]) ?_ 0 _ rfl; (with_reducible repeat (first | refine blk_drewN ?_ _ | refine blk_drew ?_ | refine blk_alloc ?_ _)); exact BK232.out⟩, ⟨by repeat (first | (with_reducible first | exact HB.out | apply below_alloc | apply pw_below_drewN | apply below_drew1 | refine below_set ?_ GE216.out | refine below_set ?_ GE232.out) | exact HB.out)⟩⟩
    clear HC53
    clear c50b0 c51b0 c52b0 hcz56_0 hcz56_1 hfz56_0 hfz56_1 hx231_0 hx231_1 p231 q231
    obtain ⟨kq, x114_52, rfl, HA, HJ52, HO_8, BK216, BK232, HB⟩ := hcut
    cases kq with
    | zero => exact absurd HA.out (by simp [legal_Check.j4])
    | succ kj52 =>
     have H := HA.out
     clear HA
     simp only [legal_Check.j4] at H
     by_cases c74 : x114_52 = true
     · subst c74
       have H1 : (some 2) = some r := by rw [if_pos rfl] at H; exact H
       clear H
       have H := H1
       clear H1
       obtain rfl := Option.some.inj H
       go_wp2
       repeat (go_quiet (fail); try go_wp2)
       go_ret
       exact ⟨by first | rfl | (simp [errW_none, errW_some] <;> rfl) | (simp [*, errW_none, errW_some] <;> rfl), by repeat (first | (with_reducible first | exact HB.out | apply below_alloc | apply pw_below_drewN | apply below_drew1 | refine below_set ?_ GE216.out | refine below_set ?_ GE232.out) | exact HB.out)⟩
     replace c74 := Bool.eq_false_iff.mpr c74
     subst c74
     have H1 : (legal_Check.l4 kj52 l1 x8_3 x69_3 ((rd_T47 l2 x69_3).f1) l2 (l2.length : Int) x69_3 a0_0 a0_1 a0_2 l0_3 l0_4 l0_5 ((rd_T47 l2 x69_3).f0) ((rd_T47 l2 x69_3).f1)) = some r := by rw [if_neg (show ¬ (false = true) by decide)] at H; exact H
     clear H
     have H := H1
     clear H1
     have H' := Aside0.mk H
     clear H
     have hcz76_0 : wc.cell? ⟨gb232, 0, none⟩ = some (.int .i64 ((rd_T47 l2 x69_3).f0)) := (blk_cell BK232.out 0).trans rfl
     have hcz76_1 : wc.cell? ⟨gb232, 1, none⟩ = some (.int .i64 ((rd_T47 l2 x69_3).f1)) := (blk_cell BK232.out 1).trans rfl
     have hfz76_0 := blk_frozen BK232.out 0
     have hfz76_1 := blk_frozen BK232.out 1
     go_wp2
     repeat (go_quiet (fail); try go_wp2)
     go_loopg [15] kj52 (fun kq v15 w' => ∃ (x8_5 : List (List Bool)) (x15_5 : Int), v15 = .int .i64 x15_5 ∧ Aside0 (legal_Check.l4 kq l1 x8_5 x69_3 x15_5 l2 (l2.length : Int) x69_3 a0_0 a0_1 a0_2 l0_3 l0_4 l0_5 ((rd_T47 l2 x69_3).f0) ((rd_T47 l2 x69_3).f1) = some r) ∧ Aside0 (kq ≤ kj52) ∧ Aside0 (Kd.S (Kd.slice 4 Kd.bool) 104 w' w.heap.size (fun _ => True) (.slice Ao19 x8_3.length co19) x8_5) ∧ Aside0 (w'.heap[gb216]? = some (.cells #[.int .i64 a0_0, .int .i64 a0_1, .int .i64 a0_2, (.slice A0_3 l0_3.length c0_3), (.slice A0_4 l0_4.length c0_4), (.slice A0_5 l0_5.length c0_5)] 57 (0, 0))) ∧ Aside0 (w'.heap[gb232]? = some (.cells #[.int .i64 ((rd_T47 l2 x69_3).f0), .int .i64 ((rd_T47 l2 x69_3).f1)] 47 (0, 0))) ∧ Aside0 (Below w.heap.size w w'))
     case atStart => exact ⟨(x8_3), (((rd_T47 l2 x69_3).f1)), (by first | rfl | (simp; done) | (simp [*]; done)), H', ⟨Nat.le_refl _⟩, ⟨by (try simp only [hl8_1]); (try simp only [hl8_2]); (try simp only [hl8_3]); (with_reducible repeat (first | apply Kd.S_alloc | apply Kd.S_drewN | apply Kd.S_drew)); exact HO_8.out⟩, ⟨by (try simp only [hl8_1]); (try simp only [hl8_2]); (try simp only [hl8_3]); (with_reducible repeat (first | refine blk_drewN ?_ _ | refine blk_drew ?_ | refine blk_alloc ?_ _)); exact BK216.out⟩, ⟨by (try simp only [hl8_1]); (try simp only [hl8_2]); (try simp only [hl8_3]); (with_reducible repeat (first | refine blk_drewN ?_ _ | refine blk_drew ?_ | refine blk_alloc ?_ _)); exact BK232.out⟩, ⟨by repeat (first | (with_reducible first | exact HB.out | apply below_alloc | apply pw_below_drewN | apply below_drew1 | refine below_set ?_ GE216.out | refine below_set ?_ GE232.out) | exact HB.out)⟩⟩
     clear H'
     clear hcz76_0 hcz76_1 hfz76_0 hfz76_1
     obtain ⟨x8_5, x15_5, rfl, HA, HK5, HO_8, BK216, BK232, HB⟩ := hrel
     have hl8_5 := (Kd.S_reads' HO_8.out).1
     rw [hl8_5] at HO_8
     (try simp only [hl8_5])
     (try simp only [hl8_5] at BK216)
     (try simp only [hl8_5] at BK232)
     cases gk with
     | zero => exact absurd HA.out (by simp [legal_Check.l4])
     | succ k5 =>
      have H := HA.out
      clear HA
      simp only [legal_Check.l4] at H
      by_cases c77 : 0 ≤ x69_3
      rotate_left
      · rw [if_neg c77] at H
        exact absurd H (by simp)
      rw [if_pos c77] at H
      have c77b0 : decide (0 ≤ x69_3) = true := decide_eq_true c77
      clear c77
      by_cases c78 : x69_3 < (l1.length : Int)
      rotate_left
      · rw [if_neg c78] at H
        exact absurd H (by simp)
      rw [if_pos c78] at H
      have c78b0 : decide (x69_3 < (l1.length : Int)) = true := decide_eq_true c78
      clear c78
      by_cases c79 : x15_5 < (wrap64 (((rd_T47 l2 x69_3).f1) + (rd l1 x69_3)))
      rotate_left
      · rw [if_neg c79] at H
        have c79b0 : decide (x15_5 < (wrap64 (((rd_T47 l2 x69_3).f1) + (rd l1 x69_3)))) = false := decide_eq_false c79
        clear c79
        have H' := Aside0.mk H
        clear H
        have hcz94_1 : wr.cell? ⟨gb232, 1, none⟩ = some (.int .i64 ((rd_T47 l2 x69_3).f1)) := (blk_cell BK232.out 1).trans rfl
        have p236 : 0 ≤ (x69_3 : Int) := of_decide_eq_true (by first | (with_reducible assumption) | assumption)
        have q236 : x69_3 < (l1.length : Int) := of_decide_eq_true (by first | (with_reducible assumption) | assumption)
        obtain ⟨ad236, e236, hx236_0⟩ := Kd.at_int HR1.out x69_3 p236 q236
        cases e236
        replace hx236_0 := (HB.out.cell (World.block_lt_of_cell? w _ hx236_0)).trans hx236_0
        replace p236 := eq_true p236
        replace q236 := eq_true q236
        go_wp2
        repeat (go_quiet (fail); try go_wp2)
        (try simp only [← hl8_3, ← hl8_5])
        go_roundg k5
        case measure => have := HK1.out; have := HK2.out; have := HK3.out; have := HJ52.out; have := HK5.out; omega
        case rel => exact ⟨(x8_5), (wrap64 (x69_3 + 1)), (by first | rfl | (simp; done) | (simp [*]; done)), H', ⟨by have := HK1.out; have := HK2.out; have := HK3.out; have := HJ52.out; have := HK5.out; omega⟩, ⟨by (try simp only [hl8_1]); (try simp only [hl8_2]); (try simp only [hl8_3]); (try simp only [hl8_5]); (with_reducible repeat (first | apply Kd.S_alloc | apply Kd.S_drewN | apply Kd.S_drew)); exact HO_8.out⟩, ⟨by (try simp only [hl8_1]); (try simp only [hl8_2]); (try simp only [hl8_3]); (try simp only [hl8_5]); (with_reducible repeat (first | refine blk_drewN ?_ _ | refine blk_drew ?_ | refine blk_alloc ?_ _)); exact BK216.out⟩, ⟨by repeat (first | (with_reducible first | exact HB.out | apply below_alloc | apply pw_below_drewN | apply below_drew1 | refine below_set ?_ GE216.out | refine below_set ?_ GE232.out) | exact HB.out)⟩⟩
      rw [if_pos c79] at H
      have c79b0 : decide (x15_5 < (wrap64 (((rd_T47 l2 x69_3).f1) + (rd l1 x69_3)))) = true := decide_eq_true c79
      clear c79
      by_cases c80 : 0 ≤ ((rd_T47 l2 x69_3).f0)
      rotate_left
      · rw [if_neg c80] at H
        exact absurd H (by simp)
      rw [if_pos c80] at H
      have c80b0 : decide (0 ≤ ((rd_T47 l2 x69_3).f0)) = true := decide_eq_true c80
      clear c80
      by_cases c81 : ((rd_T47 l2 x69_3).f0) < (x8_5.length : Int)
      rotate_left
      · rw [if_neg c81] at H
        exact absurd H (by simp)
      rw [if_pos c81] at H
      have c81b0 : decide (((rd_T47 l2 x69_3).f0) < (x8_5.length : Int)) = true := decide_eq_true c81
      clear c81
      by_cases c82 : 0 ≤ x15_5
      rotate_left
      · rw [if_neg c82] at H
        exact absurd H (by simp)
      rw [if_pos c82] at H
      have c82b0 : decide (0 ≤ x15_5) = true := decide_eq_true c82
      clear c82
      by_cases c83 : x15_5 < ((rd_L7 x8_5 ((rd_T47 l2 x69_3).f0)).length : Int)
      rotate_left
      · rw [if_neg c83] at H
        exact absurd H (by simp)
      rw [if_pos c83] at H
      have c83b0 : decide (x15_5 < ((rd_L7 x8_5 ((rd_T47 l2 x69_3).f0)).length : Int)) = true := decide_eq_true c83
      clear c83
      obtain ⟨bq84, hbq84⟩ : ∃ b_ : Bool, b_ = (rdOf false (rd_L7 x8_5 ((rd_T47 l2 x69_3).f0)) x15_5) := ⟨_, rfl⟩
      replace H : (if bq84 = true then (some 15) else (legal_Check.l4 k5 l1 (x8_5.set (((rd_T47 l2 x69_3).f0) : Int).toNat ((rd_L7 x8_5 ((rd_T47 l2 x69_3).f0)).set (x15_5 : Int).toNat true)) x69_3 (wrap64 (x15_5 + 1)) l2 (l2.length : Int) x69_3 a0_0 a0_1 a0_2 l0_3 l0_4 l0_5 ((rd_T47 l2 x69_3).f0) ((rd_T47 l2 x69_3).f1))) = some r := by rw [← hbq84] at H; exact H
      have Nbq84 := Aside0.mk hbq84
      clear hbq84
      by_cases c85 : bq84 = true
      · subst c85
        have H1 : (some 15) = some r := by rw [if_pos rfl] at H; exact H
        clear H
        have H := H1
        clear H1
        obtain rfl := Option.some.inj H
        have hcz87_0 : wr.cell? ⟨gb232, 0, none⟩ = some (.int .i64 ((rd_T47 l2 x69_3).f0)) := (blk_cell BK232.out 0).trans rfl
        have hcz87_1 : wr.cell? ⟨gb232, 1, none⟩ = some (.int .i64 ((rd_T47 l2 x69_3).f1)) := (blk_cell BK232.out 1).trans rfl
        have p236 : 0 ≤ (x69_3 : Int) := of_decide_eq_true (by first | (with_reducible assumption) | assumption)
        have q236 : x69_3 < (l1.length : Int) := of_decide_eq_true (by first | (with_reducible assumption) | assumption)
        obtain ⟨ad236, e236, hx236_0⟩ := Kd.at_int HR1.out x69_3 p236 q236
        cases e236
        replace hx236_0 := (HB.out.cell (World.block_lt_of_cell? w _ hx236_0)).trans hx236_0
        replace p236 := eq_true p236
        replace q236 := eq_true q236
        have p237 : 0 ≤ (((rd_T47 l2 x69_3).f0) : Int) := of_decide_eq_true (by first | (with_reducible assumption) | assumption)
        have q237 : ((rd_T47 l2 x69_3).f0) < (x8_5.length : Int) := of_decide_eq_true (by first | (with_reducible assumption) | assumption)
        obtain ⟨ad237, A237_0, c237_0, e237, hx237_0, hl237_0, hi237_0⟩ := at_L7 (Kd.S_reads' HO_8.out).2.2 ((rd_T47 l2 x69_3).f0) p237 q237
        cases e237
        obtain ⟨ce237, hce237, hMe237, hcc237⟩ := Kd.S_get HO_8.out [] ((rd_T47 l2 x69_3).f0) p237 (by first | exact q237 | exact of_decide_eq_true (by first | (with_reducible assumption) | assumption) | (have e_ := (Kd.S_reads' HO_8.out).1; omega))
        obtain ⟨ve237_0, rfl, ge237_0⟩ := hMe237
        have hv237_0 := hcc237 0 _ rfl
        rw [Nat.add_zero, show ((Kd.slice 4 Kd.bool)).sz = 1 from rfl, Nat.mul_one] at hv237_0
        replace hv237_0 := Option.some.inj (hv237_0.symm.trans hx237_0)
        rw [hv237_0] at ge237_0
        have HL237_0 := Aside0.mk (show Kd.R Kd.bool 4 _ _ _ _ (rd_L7 x8_5 ((rd_T47 l2 x69_3).f0)) from ge237_0)
        clear hv237_0 ge237_0
        have HX237_0 := Aside0.mk hx237_0
        clear hcc237 hce237
        have HR237_0 := Aside0.mk hi237_0
        clear hi237_0 hl237_0
        replace p237 := eq_true p237
        replace q237 := eq_true q237
        have p238 : 0 ≤ (x15_5 : Int) := of_decide_eq_true (by first | (with_reducible assumption) | assumption)
        have q238 : x15_5 < ((rd_L7 x8_5 ((rd_T47 l2 x69_3).f0)).length : Int) := of_decide_eq_true (by first | (with_reducible assumption) | assumption)
        obtain ⟨ad238, e238, hx238_0⟩ := Kd.at_bool (by repeat (first | (with_reducible exact HR237_0.out) | (with_reducible refine Kd.C_alloc ?_ _) | (with_reducible refine Kd.C_drewN ?_ _) | (with_reducible refine Kd.C_drew ?_) | exact HR237_0.out)) x15_5 p238 q238
        (try rw [← Nbq84.out] at hx238_0)
        cases e238
        replace p238 := eq_true p238
        replace q238 := eq_true q238
        go_wp2
        repeat (go_quiet (fail); try go_wp2)
        go_ret
        exact ⟨by first | rfl | (simp [errW_none, errW_some] <;> rfl) | (simp [*, errW_none, errW_some] <;> rfl), by repeat (first | (with_reducible first | exact HB.out | apply below_alloc | apply pw_below_drewN | apply below_drew1 | refine below_set ?_ GE216.out | refine below_set ?_ GE232.out) | exact HB.out)⟩
      replace c85 := Bool.eq_false_iff.mpr c85
      subst c85
      have H1 : (legal_Check.l4 k5 l1 (x8_5.set (((rd_T47 l2 x69_3).f0) : Int).toNat ((rd_L7 x8_5 ((rd_T47 l2 x69_3).f0)).set (x15_5 : Int).toNat true)) x69_3 (wrap64 (x15_5 + 1)) l2 (l2.length : Int) x69_3 a0_0 a0_1 a0_2 l0_3 l0_4 l0_5 ((rd_T47 l2 x69_3).f0) ((rd_T47 l2 x69_3).f1)) = some r := by rw [if_neg (show ¬ (false = true) by decide)] at H; exact H
      clear H
      have H := H1
      clear H1
      obtain ⟨y240, hy240⟩ : ∃ y_ : List Bool, y_ = ((rd_L7 x8_5 ((rd_T47 l2 x69_3).f0)).set (x15_5 : Int).toNat true) := ⟨_, rfl⟩
      replace H : (legal_Check.l4 k5 l1 (x8_5.set (((rd_T47 l2 x69_3).f0) : Int).toNat y240) x69_3 (wrap64 (x15_5 + 1)) l2 (l2.length : Int) x69_3 a0_0 a0_1 a0_2 l0_3 l0_4 l0_5 ((rd_T47 l2 x69_3).f0) ((rd_T47 l2 x69_3).f1)) = some r := by first | (rw [hy240]; with_reducible exact H) | (have H2_ := (Option.bind_some _ _).symm.trans H; rw [hy240]; with_reducible exact H2_) | (have H2_ := (Option.bind_some _ _).symm.trans H; with_reducible exact H2_) | with_reducible exact H | (rw [hy240]; exact H) | exact H
      have Ny240 := Aside0.mk hy240
      clear hy240
      obtain ⟨y242, hy242⟩ : ∃ y_ : List (List Bool), y_ = (x8_5.set (((rd_T47 l2 x69_3).f0) : Int).toNat y240) := ⟨_, rfl⟩
      replace H : (legal_Check.l4 k5 l1 y242 x69_3 (wrap64 (x15_5 + 1)) l2 (l2.length : Int) x69_3 a0_0 a0_1 a0_2 l0_3 l0_4 l0_5 ((rd_T47 l2 x69_3).f0) ((rd_T47 l2 x69_3).f1)) = some r := by first | (rw [hy242]; with_reducible exact H) | (have H2_ := (Option.bind_some _ _).symm.trans H; rw [hy242]; with_reducible exact H2_) | (have H2_ := (Option.bind_some _ _).symm.trans H; with_reducible exact H2_) | with_reducible exact H | (rw [hy242]; exact H) | exact H
      have Ny242 := Aside0.mk hy242
      clear hy242
      have H' := Aside0.mk H
      clear H
      have hcz90_0 : wr.cell? ⟨gb232, 0, none⟩ = some (.int .i64 ((rd_T47 l2 x69_3).f0)) := (blk_cell BK232.out 0).trans rfl
      have hcz90_1 : wr.cell? ⟨gb232, 1, none⟩ = some (.int .i64 ((rd_T47 l2 x69_3).f1)) := (blk_cell BK232.out 1).trans rfl
      have p236 : 0 ≤ (x69_3 : Int) := of_decide_eq_true (by first | (with_reducible assumption) | assumption)
      have q236 : x69_3 < (l1.length : Int) := of_decide_eq_true (by first | (with_reducible assumption) | assumption)
      obtain ⟨ad236, e236, hx236_0⟩ := Kd.at_int HR1.out x69_3 p236 q236
      cases e236
      replace hx236_0 := (HB.out.cell (World.block_lt_of_cell? w _ hx236_0)).trans hx236_0
      replace p236 := eq_true p236
      replace q236 := eq_true q236
      have p237 : 0 ≤ (((rd_T47 l2 x69_3).f0) : Int) := of_decide_eq_true (by first | (with_reducible assumption) | assumption)
      have q237 : ((rd_T47 l2 x69_3).f0) < (x8_5.length : Int) := of_decide_eq_true (by first | (with_reducible assumption) | assumption)
      obtain ⟨ad237, A237_0, c237_0, e237, hx237_0, hl237_0, hi237_0⟩ := at_L7 (Kd.S_reads' HO_8.out).2.2 ((rd_T47 l2 x69_3).f0) p237 q237
      cases e237
      obtain ⟨ce237, hce237, hMe237, hcc237⟩ := Kd.S_get HO_8.out [] ((rd_T47 l2 x69_3).f0) p237 (by first | exact q237 | exact of_decide_eq_true (by first | (with_reducible assumption) | assumption) | (have e_ := (Kd.S_reads' HO_8.out).1; omega))
      obtain ⟨ve237_0, rfl, ge237_0⟩ := hMe237
      have hv237_0 := hcc237 0 _ rfl
      rw [Nat.add_zero, show ((Kd.slice 4 Kd.bool)).sz = 1 from rfl, Nat.mul_one] at hv237_0
      replace hv237_0 := Option.some.inj (hv237_0.symm.trans hx237_0)
      rw [hv237_0] at ge237_0
      have HL237_0 := Aside0.mk (show Kd.R Kd.bool 4 _ _ _ _ (rd_L7 x8_5 ((rd_T47 l2 x69_3).f0)) from ge237_0)
      clear hv237_0 ge237_0
      have HX237_0 := Aside0.mk hx237_0
      clear hcc237 hce237
      have HR237_0 := Aside0.mk hi237_0
      clear hi237_0 hl237_0
      replace p237 := eq_true p237
      replace q237 := eq_true q237
      have p238 : 0 ≤ (x15_5 : Int) := of_decide_eq_true (by first | (with_reducible assumption) | assumption)
      have q238 : x15_5 < ((rd_L7 x8_5 ((rd_T47 l2 x69_3).f0)).length : Int) := of_decide_eq_true (by first | (with_reducible assumption) | assumption)
      obtain ⟨ad238, e238, hx238_0⟩ := Kd.at_bool (by repeat (first | (with_reducible exact HR237_0.out) | (with_reducible refine Kd.C_alloc ?_ _) | (with_reducible refine Kd.C_drewN ?_ _) | (with_reducible refine Kd.C_drew ?_) | exact HR237_0.out)) x15_5 p238 q238
      (try rw [← Nbq84.out] at hx238_0)
      cases e238
      replace p238 := eq_true p238
      replace q238 := eq_true q238
      have p239 : 0 ≤ (((rd_T47 l2 x69_3).f0) : Int) := of_decide_eq_true (by first | (with_reducible assumption) | assumption)
      have q239 : ((rd_T47 l2 x69_3).f0) < (x8_5.length : Int) := of_decide_eq_true (by first | (with_reducible assumption) | assumption)
      obtain ⟨ad239, A239_0, c239_0, e239, hx239_0, hl239_0, hi239_0⟩ := at_L7 (Kd.S_reads' HO_8.out).2.2 ((rd_T47 l2 x69_3).f0) p239 q239
      obtain rfl : ad237 = ad239 := (by injection e239)
      obtain ⟨ce239, hce239, hMe239, hcc239⟩ := Kd.S_get HO_8.out [] ((rd_T47 l2 x69_3).f0) p239 (by first | exact q239 | exact of_decide_eq_true (by first | (with_reducible assumption) | assumption) | (have e_ := (Kd.S_reads' HO_8.out).1; omega))
      obtain ⟨ve239_0, rfl, ge239_0⟩ := hMe239
      have hv239_0 := hcc239 0 _ rfl
      rw [Nat.add_zero, show ((Kd.slice 4 Kd.bool)).sz = 1 from rfl, Nat.mul_one] at hv239_0
      replace hv239_0 := Option.some.inj (hv239_0.symm.trans hx239_0)
      rw [hv239_0] at ge239_0
      have HL239_0 := Aside0.mk (show Kd.R Kd.bool 4 _ _ _ _ (rd_L7 x8_5 ((rd_T47 l2 x69_3).f0)) from ge239_0)
      clear hv239_0 ge239_0
      have HX239_0 := Aside0.mk hx239_0
      clear hcc239 hce239
      have HR239_0 := Aside0.mk hi239_0
      have HC239_0 := Aside0.mk hl239_0
      clear hi239_0 hl239_0
      replace p239 := eq_true p239
      replace q239 := eq_true q239
      have ea_ := Option.some.inj (hx237_0.symm.trans hx239_0)
      injection ea_ with ea_ en_ ec_
      subst ea_
      subst ec_
      clear en_
      have p88 : 0 ≤ (x15_5 : Int) := of_decide_eq_true (by first | (with_reducible assumption) | assumption)
      have q88 : (x15_5 : Int) < (((rd_L7 x8_5 ((rd_T47 l2 x69_3).f0)).length : Int) : Int) := of_decide_eq_true (by first | (with_reducible assumption) | assumption)
      obtain ⟨go88, co88, eo88, gb88, gl88, cl88, HG88⟩ := Kd.R_form HL239_0.out (by omega)
      (first | cases eo88 | (injection eo88 with ea_ en_ ec_; (first | subst ea_ | (injection ea_ with ea_; subst ea_)); subst ec_; clear en_))
      have GB88 := Aside0.mk gb88
      clear gb88 gl88 HG88
      (first | simp only [add_plain] at hx238_0 | skip)
      obtain ⟨hx88_0, hf88_0⟩ := Kd.R_celln false HL239_0.out (x15_5 : Int) p88 q88
      replace p88 := eq_true p88
      replace q88 := eq_true q88
      have hq91 : (((rd_T47 l2 x69_3).f0) : Int) < (x8_5.length : Int) := (by have h_ : (((rd_T47 l2 x69_3).f0) : Int) < ((x8_5.length : Int) : Int) := of_decide_eq_true (by first | (with_reducible assumption) | assumption); first | exact h_ | (have e_ := (Kd.S_reads' HO_8.out).1; omega) | simpa only [List.length_set, List.length_set] using h_)
      obtain ⟨oki91, ce91, hcl91, hM91, hcc91, hok91, hbk91⟩ := Kd.S_borrow HO_8.out [] (((rd_T47 l2 x69_3).f0) : Int) (of_decide_eq_true (by first | (with_reducible assumption) | assumption)) (by first | exact hq91 | exact of_decide_eq_true (by first | (with_reducible assumption) | assumption))
      obtain ⟨ve91_0, rfl, ge91_0⟩ := hM91
      have hv91 := hcc91 0 _ rfl
      rw [Nat.add_zero, show ((Kd.slice 4 Kd.bool)).sz = 1 from rfl, Nat.mul_one] at hv91
      replace hv91 := Option.some.inj (hv91.symm.trans HX239_0.out)
      subst hv91
      clear hcc91 hcl91
      replace ge91_0 := (show Kd.R Kd.bool 4 _ _ _ _ (rd_L7 x8_5 ((rd_T47 l2 x69_3).f0)) from ge91_0)
      go_wp2_with fail
      repeat (go_quiet (fail); try go_wp2_with ((with_reducible refine gate_store (t := 4) (p := 142) rfl ?_); (try (rw [drewN_self wr]; generalize hq_ : World.drewN wr _ = wr; have n0_ := Aside0.mk (Kd.S_at hq_ HO_8.out); have n1_ := Aside0.mk (Kd.R_at hq_ HL239_0.out); have n2_ := Aside0.mk (blk_at hq_ BK216.out); have n3_ := Aside0.mk (blk_at hq_ BK232.out); have n4_ := Aside0.mk (below_at hq_ HB.out); have cat_ : ∀ {W W' : World} {m : Nat} {a : Addr} {v : Value}, W.drewN m = W' → W.cell? a = some v → W'.cell? a = some v := (by intro W W' m a v h h'; subst h; exact h'); have fat_ : ∀ {W W' : World} {m : Nat} {a : Addr}, W.drewN m = W' → W.frozen? a = false → W'.frozen? a = false := (by intro W W' m a h h'; subst h; exact h'); have m0_ := Aside0.mk (cat_ hq_ HX239_0.out); have m1_ := cat_ hq_ hx88_0; have m2_ := fat_ hq_ hf88_0; clear cat_ fat_ HX239_0 hx88_0 hf88_0; have HX239_0 := m0_; clear m0_; clear hq_ HO_8 HL239_0 BK216 BK232 HB; have HO_8 := n0_; have HL239_0 := n1_; have BK216 := n2_; have BK232 := n3_; have HB := n4_; clear n0_ n1_ n2_ n3_ n4_; (try (have hq91 : (((rd_T47 l2 x69_3).f0) : Int) < (x8_5.length : Int) := (by have h_ : (((rd_T47 l2 x69_3).f0) : Int) < ((x8_5.length : Int) : Int) := of_decide_eq_true (by first | (with_reducible assumption) | assumption); first | exact h_ | (have e_ := (Kd.S_reads' HO_8.out).1; omega) | simpa only [List.length_set, List.length_set] using h_))); (try (obtain ⟨oki91, ce91, hcl91, hM91, hcc91, hok91, hbk91⟩ := Kd.S_borrow HO_8.out [] (((rd_T47 l2 x69_3).f0) : Int) (of_decide_eq_true (by first | (with_reducible assumption) | assumption)) hq91)); (try (obtain ⟨ve91_0, rfl, ge91_0⟩ := hM91)); (try (have hv91 := hcc91 0 _ rfl)); (try (rw [Nat.add_zero, show ((Kd.slice 4 Kd.bool)).sz = 1 from rfl, Nat.mul_one] at hv91)); (try (replace hv91 := Option.some.inj (hv91.symm.trans HX239_0.out))); (try (subst hv91)); (try (clear hcc91 hcl91)); (try (replace ge91_0 := (show Kd.R Kd.bool 4 _ _ _ _ (rd_L7 x8_5 ((rd_T47 l2 x69_3).f0)) from ge91_0))); (try (have HP91 := Kd.R_putg ge91_0 (x15_5 : Int) true)))); refine store_event (t := 4) (p := 142) (v := ?vo_w92) (w1 := (wr.setCell ⟨go88, (x15_5 : Int).toNat, none⟩ (.bool true))) ?hg ?ho ?hn ?hr ?_; (case ho => rfl); (case hg => rfl); (case hn => rfl); (case hr => first | (go_simp; done) | (go_simp; rfl)); intro w92 hw; have hg : wr.grownBy w92 (some go88) := (by rw [hw]; exact HP91.2); have hz_ : Kd.R Kd.bool 4 w92 w.heap.size oki91 (.slice (some ⟨go88, 0, none⟩) (rd_L7 x8_5 ((rd_T47 l2 x69_3).f0)).length c237_0) y240 := (by rw [hw, Ny240.out]; exact HP91.1); have hp_ : Kd.S (Kd.slice 4 Kd.bool) 104 w92 w.heap.size (fun _ => True) (.slice (some ad237) x8_5.length co19) y242 := (by rw [Ny242.out]; exact hbk91 hg (fun k_ e_ => by injection e_ with e_; subst e_; exact ge91_0.1 _ rfl) (Kd.M_row hz_)); have hm_ := Kd.R_mono hz_ hok91; clear HP91 hbk91; have n0_ := Aside0.mk (hp_); have n1_ := Aside0.mk (blk_grown (g := gb216) (o := .cells #[.int .i64 a0_0, .int .i64 a0_1, .int .i64 a0_2, .slice A0_3 l0_3.length c0_3, .slice A0_4 l0_4.length c0_4, .slice A0_5 l0_5.length c0_5] 57 (0, 0)) (by (with_reducible repeat (first | refine blk_drewN ?_ _ | refine blk_drew ?_ | refine blk_alloc ?_ _)); exact BK216.out) hg (Kd.R_ne HL239_0.out BK216.out (by decide))); have n2_ := Aside0.mk (blk_grown (g := gb232) (o := .cells #[.int .i64 ((rd_T47 l2 x69_3).f0), .int .i64 ((rd_T47 l2 x69_3).f1)] 47 (0, 0)) (by (with_reducible repeat (first | refine blk_drewN ?_ _ | refine blk_drew ?_ | refine blk_alloc ?_ _)); exact BK232.out) hg (Kd.R_ne HL239_0.out BK232.out (by decide))); have n3_ := Aside0.mk ((by rw [hw]; exact below_set (HB.out) GB88.out : Below w.heap.size w w92)); have n4_ := Aside0.mk (hm_); have n5_ := Aside0.mk ((Kd.R_reads' hm_).2.1); clear HO_8; clear BK216; clear BK232; clear HB; clear HL237_0; clear HL239_0; have HO_8 := n0_; have BK216 := n1_; have BK232 := n2_; have HB := n3_; clear n0_ n1_ n2_ n3_ n4_ n5_; clear hg hw hp_ hz_ hm_ hok91))
      (try simp only [← hl8_5])
      go_roundg k5
      case measure => have := HK1.out; have := HK2.out; have := HK3.out; have := HJ52.out; have := HK5.out; omega
      case rel => exact ⟨(y242), (wrap64 (x15_5 + 1)), (by first | rfl | (simp; done) | (simp [*]; done)), H', ⟨by have := HK1.out; have := HK2.out; have := HK3.out; have := HJ52.out; have := HK5.out; omega⟩, ⟨by (try simp only [hl8_1]); (try simp only [hl8_2]); (try simp only [hl8_3]); (try simp only [hl8_5]); (with_reducible repeat (first | apply Kd.S_alloc | apply Kd.S_drewN | apply Kd.S_drew)); exact HO_8.out⟩, ⟨by (try simp only [hl8_1]); (try simp only [hl8_2]); (try simp only [hl8_3]); (try simp only [hl8_5]); (with_reducible repeat (first | refine blk_drewN ?_ _ | refine blk_drew ?_ | refine blk_alloc ?_ _)); exact BK216.out⟩, ⟨by (try simp only [hl8_1]); (try simp only [hl8_2]); (try simp only [hl8_3]); (try simp only [hl8_5]); (with_reducible repeat (first | refine blk_drewN ?_ _ | refine blk_drew ?_ | refine blk_alloc ?_ _)); exact BK232.out⟩, ⟨by repeat (first | (with_reducible first | exact HB.out | apply below_alloc | apply pw_below_drewN | apply below_drew1 | refine below_set ?_ GE216.out | refine below_set ?_ GE232.out) | exact HB.out)⟩⟩

end Go.Proofs.Ytgajgnemfccnhaa.PL
