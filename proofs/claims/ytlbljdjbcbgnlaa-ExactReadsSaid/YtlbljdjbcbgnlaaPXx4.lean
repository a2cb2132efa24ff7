-- PRINTED by print.py (a twelfth state) out of the translation. Not trusted: Lean checks it.
import Derived.Test.YtlbljdjbcbgnlaaCmp
import Derived.Test.YtlbljdjbcbgnlaaPXx0
namespace Go.Proofs.Ytlbljdjbcbgnlaa.PX
open Go.RowKit Go.Proofs.YtlbljdjbcbgnlaaW.PrintWords Go.Proofs.YtlbljdjbcbgnlaaW.PrintLast Go.Proofs.YtlbljdjbcbgnlaaW.PrintMore
attribute [local go_sem] max2_int min2_int max_two min_two max_three min_three max_four min_four   -- for this text's walks alone
set_option linter.unusedVariables false
set_option linter.unusedSimpArgs false

/-! ### exact_CheckMatrix: function 22 -/
mutual
def exact_CheckMatrix.l0 : Nat → List (List Int) → List (List Int) → Int → Int → Option (Int)
 | 0, _, _, _, _ => none
 | k + 1, x0, x10, x11, x12 => if x12 < x11 then (if 0 ≤ x12 then (if x12 < (x10.length : Int) then (if ((rd_L1 x10 x12).length : Int) > 48 then (some 3) else (if 0 < (x0.length : Int) then (if ((rd_L1 x10 x12).length : Int) = ((rd_L1 x0 0).length : Int) then (exact_CheckMatrix.l1 k x0 x10 x11 x12 (rd_L1 x10 x12) ((rd_L1 x10 x12).length : Int) 0) else (some 4)) else (none))) else (none)) else (none)) else (some 0)
def exact_CheckMatrix.l1 : Nat → List (List Int) → List (List Int) → Int → Int → List Int → Int → Int → Option (Int)
 | 0, _, _, _, _, _, _, _ => none
 | k + 1, x0, x10, x11, x12, x26, x27, x28 => if x28 < x27 then (if 0 ≤ x28 then (if x28 < (x26.length : Int) then (if (rd x26 x28) < (-1099511627776) then (some 2) else (if (rd x26 x28) > 1099511627776 then (some 2) else (exact_CheckMatrix.l1 k x0 x10 x11 x12 x26 x27 (wrap64 (x28 + 1))))) else (none)) else (none)) else (exact_CheckMatrix.l0 k x0 x10 x11 (wrap64 (x12 + 1)))
end
def exact_CheckMatrix.f (k : Nat) (l0 : List (List Int)) : Option (Int) := if (l0.length : Int) > 48 then (some 3) else (exact_CheckMatrix.l0 k l0 l0 (l0.length : Int) 0)
theorem exact_CheckMatrix.mono_l : ∀ k, (∀ y0 y1 y2 y3, LeO (exact_CheckMatrix.l0 k y0 y1 y2 y3) (exact_CheckMatrix.l0 (k + 1) y0 y1 y2 y3)) ∧ (∀ y0 y1 y2 y3 y4 y5 y6, LeO (exact_CheckMatrix.l1 k y0 y1 y2 y3 y4 y5 y6) (exact_CheckMatrix.l1 (k + 1) y0 y1 y2 y3 y4 y5 y6))
 | 0 => ⟨fun _ _ _ _ r h => by simp [exact_CheckMatrix.l0] at h, fun _ _ _ _ _ _ _ r h => by simp [exact_CheckMatrix.l1] at h⟩
 | k + 1 => by
  obtain ⟨ih0, ih1⟩ := exact_CheckMatrix.mono_l k
  refine ⟨?_, ?_⟩
  · intro y0 y1 y2 y3
    unfold exact_CheckMatrix.l0
    repeat' first
    | (with_reducible exact ih1 _ _ _ _ _ _ _)
    | (with_reducible exact LeO.refl _)
    | (with_reducible exact LeO.none _)
    | (with_reducible refine LeO.ite ?_ ?_)
    | (with_reducible refine LeO.bind ?_ (fun _ => ?_))
  · intro y0 y1 y2 y3 y4 y5 y6
    unfold exact_CheckMatrix.l1
    repeat' first
    | (with_reducible exact ih0 _ _ _ _)
    | (with_reducible exact ih1 _ _ _ _ _ _ _)
    | (with_reducible exact LeO.refl _)
    | (with_reducible exact LeO.none _)
    | (with_reducible refine LeO.ite ?_ ?_)
    | (with_reducible refine LeO.bind ?_ (fun _ => ?_))
theorem exact_CheckMatrix.mono : ∀ a0 k, LeO (exact_CheckMatrix.f k a0) (exact_CheckMatrix.f (k + 1) a0) := by
 intro a0 k
 obtain ⟨ih0, ih1⟩ := exact_CheckMatrix.mono_l k
 unfold exact_CheckMatrix.f
 repeat' first
  | (with_reducible exact ih0 _ _ _ _)
  | (with_reducible exact LeO.refl _)
  | (with_reducible exact LeO.none _)
  | (with_reducible refine LeO.ite ?_ ?_)
  | (with_reducible refine LeO.bind ?_ (fun _ => ?_))
set_option maxHeartbeats 8000000 in
set_option maxRecDepth 100000 in
theorem exact_CheckMatrix.calls (k : Nat) (A0 : Option Addr) (c0 : Nat) (l0 : List (List Int)) (r : Int) (w : World) (hr0 : Kd.C (Kd.slice 2 (Kd.int .i64)) w A0 l0.length l0) (hc0 : l0.length ≤ c0) (h : exact_CheckMatrix.f k l0 = some r) :
 Calls Try.prog 22 #[.slice A0 l0.length c0] w fun e w' => e = .returned (.int .i64 r) ∧ Drawn0 w w' := by
 have HR0 := Aside0.mk hr0
 clear hr0 hc0
 have H : (if (l0.length : Int) > 48 then (some 3) else (exact_CheckMatrix.l0 k l0 l0 (l0.length : Int) 0)) = some r := h
 clear h
 by_cases c2 : (l0.length : Int) > 48
 · rw [if_pos c2] at H
   have c2b0 : decide (48 < (l0.length : Int)) = true := decide_eq_true c2
   clear c2
   obtain rfl := Option.some.inj H
   go_enter Try.func22, Try.ntmps22
   go_wp2
   go_ret
   exact ⟨by first | rfl | (simp; done) | (simp [*]; done), by repeat (first | exact Drawn0.refl _ | apply Drawn0.step)⟩
 rw [if_neg c2] at H
 have c2b0 : decide (48 < (l0.length : Int)) = false := decide_eq_false c2
 have c2b1 : decide (48 < l0.length) = false := decide_eq_false (by omega)
 clear c2
 have H' := Aside0.mk H
 clear H
 go_enter Try.func22, Try.ntmps22
 go_wp2
 go_loopg [12] k (fun kq v12 w' => ∃ (x12_1 : Int), v12 = .int .i64 x12_1 ∧ Aside0 (exact_CheckMatrix.l0 kq l0 l0 (l0.length : Int) x12_1 = some r) ∧ Aside0 (kq ≤ k) ∧ Drawn0 w w')
 case atStart => exact ⟨(0), (by first | rfl | (simp; done) | (simp [*]; done)), H', ⟨Nat.le_refl _⟩, by repeat (first | exact Drawn0.refl _ | apply Drawn0.step)⟩
 clear H'
 clear c2b0 c2b1
 obtain ⟨x12_1, rfl, HA, HK1, ⟨m1, rfl⟩⟩ := hrel
 cases gk with
 | zero => exact absurd HA.out (by simp [exact_CheckMatrix.l0])
 | succ k1 =>
  have H := HA.out
  clear HA
  simp only [exact_CheckMatrix.l0] at H
  by_cases c3 : x12_1 < (l0.length : Int)
  rotate_left
  · rw [if_neg c3] at H
    have c3b0 : decide (x12_1 < (l0.length : Int)) = false := decide_eq_false c3
    clear c3
    obtain rfl := Option.some.inj H
    go_wp2
    go_ret
    exact ⟨by first | rfl | (simp; done) | (simp [*]; done), by repeat (first | exact Drawn0.refl _ | apply Drawn0.step)⟩
  rw [if_pos c3] at H
  have c3b0 : decide (x12_1 < (l0.length : Int)) = true := decide_eq_true c3
  clear c3
  by_cases c4 : 0 ≤ x12_1
  rotate_left
  · rw [if_neg c4] at H
    exact absurd H (by simp)
  rw [if_pos c4] at H
  have c4b0 : decide (0 ≤ x12_1) = true := decide_eq_true c4
  clear c4
  by_cases c5 : x12_1 < (l0.length : Int)
  rotate_left
  · rw [if_neg c5] at H
    exact absurd H (by simp)
  rw [if_pos c5] at H
  have c5b0 : decide (x12_1 < (l0.length : Int)) = true := decide_eq_true c5
  clear c5
  by_cases c6 : ((rd_L1 l0 x12_1).length : Int) > 48
  · rw [if_pos c6] at H
    have c6b0 : decide (48 < ((rd_L1 l0 x12_1).length : Int)) = true := decide_eq_true c6
    clear c6
    obtain rfl := Option.some.inj H
    have p101 : 0 ≤ (x12_1 : Int) := of_decide_eq_true (by first | (with_reducible assumption) | assumption)
    have q101 : x12_1 < (l0.length : Int) := of_decide_eq_true (by first | (with_reducible assumption) | assumption)
    obtain ⟨ad101, A101_0, c101_0, e101, hx101_0, hl101_0, hi101_0⟩ := at_L1 HR0.out x12_1 p101 q101
    cases e101
    clear hi101_0 hl101_0
    replace p101 := eq_true p101
    replace q101 := eq_true q101
    go_wp2
    go_ret
    exact ⟨by first | rfl | (simp; done) | (simp [*]; done), by repeat (first | exact Drawn0.refl _ | apply Drawn0.step)⟩
  rw [if_neg c6] at H
  have c6b0 : decide (48 < ((rd_L1 l0 x12_1).length : Int)) = false := decide_eq_false c6
  have c6b1 : decide (48 < (rd_L1 l0 x12_1).length) = false := decide_eq_false (by omega)
  clear c6
  by_cases c7 : 0 < (l0.length : Int)
  rotate_left
  · rw [if_neg c7] at H
    exact absurd H (by simp)
  rw [if_pos c7] at H
  have c7b0 : decide (0 < (l0.length : Int)) = true := decide_eq_true c7
  have c7b1 : decide (0 < l0.length) = true := decide_eq_true (by omega)
  clear c7
  by_cases c8 : ((rd_L1 l0 x12_1).length : Int) = ((rd_L1 l0 0).length : Int)
  rotate_left
  · rw [if_neg c8] at H
    have c8b1 : (((rd_L1 l0 x12_1).length : Int) != ((rd_L1 l0 0).length : Int)) = true := bne_iff_ne.mpr c8
    obtain rfl := Option.some.inj H
    have p101 : 0 ≤ (x12_1 : Int) := of_decide_eq_true (by first | (with_reducible assumption) | assumption)
    have q101 : x12_1 < (l0.length : Int) := of_decide_eq_true (by first | (with_reducible assumption) | assumption)
    obtain ⟨ad101, A101_0, c101_0, e101, hx101_0, hl101_0, hi101_0⟩ := at_L1 HR0.out x12_1 p101 q101
    cases e101
    clear hi101_0 hl101_0
    replace p101 := eq_true p101
    replace q101 := eq_true q101
    have p102 : 0 ≤ (0 : Int) := (by omega)
    have q102 : 0 < (l0.length : Int) := of_decide_eq_true (by first | (with_reducible assumption) | assumption)
    obtain ⟨ad102, A102_0, c102_0, e102, hx102_0, hl102_0, hi102_0⟩ := at_L1 HR0.out 0 p102 q102
    obtain rfl : ad101 = ad102 := (by injection e102)
    have qi102 : (0 < l0.length) = True := eq_true (by omega)
    (try rw [show ((0 : Int)).toNat = 0 from rfl] at hx102_0)
    (try rw [Addr.add_zero'] at hx102_0)
    clear hi102_0 hl102_0
    replace p102 := eq_true p102
    replace q102 := eq_true q102
    go_wp2
    go_ret
    exact ⟨by first | rfl | (simp; done) | (simp [*]; done), by repeat (first | exact Drawn0.refl _ | apply Drawn0.step)⟩
  rw [if_pos c8] at H
  have c8b0 : (((rd_L1 l0 x12_1).length : Int) == ((rd_L1 l0 0).length : Int)) = true := beq_iff_eq.mpr c8
  have c8b1 : (((rd_L1 l0 x12_1).length : Int) != ((rd_L1 l0 0).length : Int)) = false := bne_eq_false_iff_eq.mpr c8
  have c8b2 : ((rd_L1 l0 x12_1).length == (rd_L1 l0 0).length) = true := by first | simpa using c8 | (simp at c8 ⊢; omega)
  clear c8
  have H' := Aside0.mk H
  clear H
  have p101 : 0 ≤ (x12_1 : Int) := of_decide_eq_true (by first | (with_reducible assumption) | assumption)
  have q101 : x12_1 < (l0.length : Int) := of_decide_eq_true (by first | (with_reducible assumption) | assumption)
  obtain ⟨ad101, A101_0, c101_0, e101, hx101_0, hl101_0, hi101_0⟩ := at_L1 HR0.out x12_1 p101 q101
  cases e101
  have HR101_0 := Aside0.mk hi101_0
  clear hi101_0 hl101_0
  replace p101 := eq_true p101
  replace q101 := eq_true q101
  have p102 : 0 ≤ (0 : Int) := (by omega)
  have q102 : 0 < (l0.length : Int) := of_decide_eq_true (by first | (with_reducible assumption) | assumption)
  obtain ⟨ad102, A102_0, c102_0, e102, hx102_0, hl102_0, hi102_0⟩ := at_L1 HR0.out 0 p102 q102
  obtain rfl : ad101 = ad102 := (by injection e102)
  have qi102 : (0 < l0.length) = True := eq_true (by omega)
  (try rw [show ((0 : Int)).toNat = 0 from rfl] at hx102_0)
  (try rw [Addr.add_zero'] at hx102_0)
  clear hi102_0 hl102_0
  replace p102 := eq_true p102
  replace q102 := eq_true q102
  go_wp2
  go_loopg [28] k1 (fun kq v28 w' => ∃ (x28_2 : Int), v28 = .int .i64 x28_2 ∧ Aside0 (exact_CheckMatrix.l1 kq l0 l0 (l0.length : Int) x12_1 (rd_L1 l0 x12_1) ((rd_L1 l0 x12_1).length : Int) x28_2 = some r) ∧ Aside0 (kq ≤ k1) ∧ Drawn0 w w')
  case atStart => exact ⟨(0), (by first | rfl | (simp; done) | (simp [*]; done)), H', ⟨Nat.le_refl _⟩, by repeat (first | exact Drawn0.refl _ | apply Drawn0.step)⟩
  clear H'
  clear c3b0 c4b0 c5b0 c6b0 c6b1 c7b0 c7b1 c8b0 c8b1 c8b2 hx101_0 hx102_0 p101 p102 q101 q102
  obtain ⟨x28_2, rfl, HA, HK2, ⟨m2, rfl⟩⟩ := hrel
  cases gk with
  | zero => exact absurd HA.out (by simp [exact_CheckMatrix.l1])
  | succ k2 =>
   have H := HA.out
   clear HA
   simp only [exact_CheckMatrix.l1] at H
   by_cases c9 : x28_2 < ((rd_L1 l0 x12_1).length : Int)
   rotate_left
   · rw [if_neg c9] at H
     have c9b0 : decide (x28_2 < ((rd_L1 l0 x12_1).length : Int)) = false := decide_eq_false c9
     clear c9
     have H' := Aside0.mk H
     clear H
     go_wp2
     go_roundg k2
     case measure => have := HK1.out; have := HK2.out; omega
     case rel => exact ⟨(wrap64 (x12_1 + 1)), (by first | rfl | (simp; done) | (simp [*]; done)), H', ⟨by have := HK1.out; have := HK2.out; omega⟩, by repeat (first | exact Drawn0.refl _ | apply Drawn0.step)⟩
   rw [if_pos c9] at H
   have c9b0 : decide (x28_2 < ((rd_L1 l0 x12_1).length : Int)) = true := decide_eq_true c9
   clear c9
   by_cases c10 : 0 ≤ x28_2
   rotate_left
   · rw [if_neg c10] at H
     exact absurd H (by simp)
   rw [if_pos c10] at H
   have c10b0 : decide (0 ≤ x28_2) = true := decide_eq_true c10
   clear c10
   by_cases c11 : x28_2 < ((rd_L1 l0 x12_1).length : Int)
   rotate_left
   · rw [if_neg c11] at H
     exact absurd H (by simp)
   rw [if_pos c11] at H
   have c11b0 : decide (x28_2 < ((rd_L1 l0 x12_1).length : Int)) = true := decide_eq_true c11
   clear c11
   by_cases c12 : (rd (rd_L1 l0 x12_1) x28_2) < (-1099511627776)
   · rw [if_pos c12] at H
     have c12b0 : decide ((rd (rd_L1 l0 x12_1) x28_2) < (-1099511627776)) = true := decide_eq_true c12
     clear c12
     obtain rfl := Option.some.inj H
     have p103 : 0 ≤ (x28_2 : Int) := of_decide_eq_true (by first | (with_reducible assumption) | assumption)
     have q103 : x28_2 < ((rd_L1 l0 x12_1).length : Int) := of_decide_eq_true (by first | (with_reducible assumption) | assumption)
     obtain ⟨ad103, e103, hx103_0⟩ := Kd.at_int HR101_0.out x28_2 p103 q103
     cases e103
     replace p103 := eq_true p103
     replace q103 := eq_true q103
     go_wp2
     go_ret
     exact ⟨by first | rfl | (simp; done) | (simp [*]; done), by repeat (first | exact Drawn0.refl _ | apply Drawn0.step)⟩
   rw [if_neg c12] at H
   have c12b0 : decide ((rd (rd_L1 l0 x12_1) x28_2) < (-1099511627776)) = false := decide_eq_false c12
   clear c12
   by_cases c13 : (rd (rd_L1 l0 x12_1) x28_2) > 1099511627776
   · rw [if_pos c13] at H
     have c13b0 : decide (1099511627776 < (rd (rd_L1 l0 x12_1) x28_2)) = true := decide_eq_true c13
     clear c13
     obtain rfl := Option.some.inj H
     have p103 : 0 ≤ (x28_2 : Int) := of_decide_eq_true (by first | (with_reducible assumption) | assumption)
     have q103 : x28_2 < ((rd_L1 l0 x12_1).length : Int) := of_decide_eq_true (by first | (with_reducible assumption) | assumption)
     obtain ⟨ad103, e103, hx103_0⟩ := Kd.at_int HR101_0.out x28_2 p103 q103
     cases e103
     replace p103 := eq_true p103
     replace q103 := eq_true q103
     go_wp2
     go_ret
     exact ⟨by first | rfl | (simp; done) | (simp [*]; done), by repeat (first | exact Drawn0.refl _ | apply Drawn0.step)⟩
   rw [if_neg c13] at H
   have c13b0 : decide (1099511627776 < (rd (rd_L1 l0 x12_1) x28_2)) = false := decide_eq_false c13
   clear c13
   have H' := Aside0.mk H
   clear H
   have p103 : 0 ≤ (x28_2 : Int) := of_decide_eq_true (by first | (with_reducible assumption) | assumption)
   have q103 : x28_2 < ((rd_L1 l0 x12_1).length : Int) := of_decide_eq_true (by first | (with_reducible assumption) | assumption)
   obtain ⟨ad103, e103, hx103_0⟩ := Kd.at_int HR101_0.out x28_2 p103 q103
   cases e103
   replace p103 := eq_true p103
   replace q103 := eq_true q103
   go_wp2
   go_roundg k2
   case measure => have := HK1.out; have := HK2.out; omega
   case rel => exact ⟨(wrap64 (x28_2 + 1)), (by first | rfl | (simp; done) | (simp [*]; done)), H', ⟨by have := HK1.out; have := HK2.out; omega⟩, by repeat (first | exact Drawn0.refl _ | apply Drawn0.step)⟩

end Go.Proofs.Ytlbljdjbcbgnlaa.PX
namespace Go.Proofs.Ytlbljdjbcbgnlaa.PX
open Go.RowKit Go.Proofs.YtlbljdjbcbgnlaaW.PrintWords Go.Proofs.YtlbljdjbcbgnlaaW.PrintLast Go.Proofs.YtlbljdjbcbgnlaaW.PrintMore
attribute [local go_sem] max2_int min2_int max_two min_two max_three min_three max_four min_four   -- for this text's walks alone
set_option linter.unusedVariables false
set_option linter.unusedSimpArgs false

/-! ### exact_square: function 60 -/
def exact_square.f (k : Nat) (l0 : List (List Int)) : Option (Int) := (exact_CheckMatrix.f k l0).bind fun t104 => (if t104 = 0 then (if (l0.length : Int) > 0 then (if 0 < (l0.length : Int) then (if ((rd_L1 l0 0).length : Int) = (l0.length : Int) then (some 0) else (some 4)) else (none)) else (some 0)) else (some t104))
theorem exact_square.mono : ∀ a0 k, LeO (exact_square.f k a0) (exact_square.f (k + 1) a0) := by
 intro a0 k
 unfold exact_square.f
 repeat' first
  | (with_reducible exact exact_CheckMatrix.mono _ _)
  | (with_reducible exact LeO.refl _)
  | (with_reducible exact LeO.none _)
  | (with_reducible refine LeO.ite ?_ ?_)
  | (with_reducible refine LeO.bind ?_ (fun _ => ?_))
set_option maxHeartbeats 8000000 in
set_option maxRecDepth 100000 in
theorem exact_square.calls (k : Nat) (A0 : Option Addr) (c0 : Nat) (l0 : List (List Int)) (r : Int) (w : World) (hr0 : Kd.C (Kd.slice 2 (Kd.int .i64)) w A0 l0.length l0) (hc0 : l0.length ≤ c0) (h : exact_square.f k l0 = some r) :
 Calls Try.prog 60 #[.slice A0 l0.length c0] w fun e w' => e = .returned (.int .i64 r) ∧ Drawn0 w w' := by
 have HR0 := Aside0.mk hr0
 have HC0 := Aside0.mk hc0
 clear hr0 hc0
 have H : ((exact_CheckMatrix.f k l0).bind fun t104 => (if t104 = 0 then (if (l0.length : Int) > 0 then (if 0 < (l0.length : Int) then (if ((rd_L1 l0 0).length : Int) = (l0.length : Int) then (some 0) else (some 4)) else (none)) else (some 0)) else (some t104))) = some r := h
 clear h
 replace H := Option.bind_eq_some_iff.mp H
 obtain ⟨t104, A20, H⟩ := H
 replace H : (if t104 = 0 then (if (l0.length : Int) > 0 then (if 0 < (l0.length : Int) then (if ((rd_L1 l0 0).length : Int) = (l0.length : Int) then (some 0) else (some 4)) else (none)) else (some 0)) else (some t104)) = some r := H
 have A2 := Aside0.mk A20
 clear A20
 by_cases c3 : t104 = 0
 rotate_left
 · rw [if_neg c3] at H
   have c3b1 : (t104 != 0) = true := bne_iff_ne.mpr c3
   obtain rfl := Option.some.inj H
   go_enter Try.func60, Try.ntmps60
   go_wp2_with ((with_reducible refine gate_callee (f := 22) rfl ?_); refine goesL_ (some 5) rfl rfl Try.func22 (by kernel_rfl) rfl #[.slice A0 l0.length c0] rfl (by (try simp only [List.map_toArray, List.map_cons, List.map_nil]); first | done | rfl | (simp only [List.length_drop, List.length_take]; rfl)) ?_; (with_reducible refine (exact_CheckMatrix.calls k _ _ l0 t104 _ ?side1 ?side2 A2.out).mono ?_); (case side1 => exact kc HR0.out); (case side2 => exact HC0.out); rintro e w' ⟨rfl, ⟨nd, rfl⟩⟩; refine ⟨_, rfl, ?_⟩)
   go_ret
   exact ⟨by first | rfl | (simp; done) | (simp [*]; done), by repeat (first | exact Drawn0.refl _ | apply Drawn0.step)⟩
 rw [if_pos c3] at H
 have c3b0 : (t104 == 0) = true := beq_iff_eq.mpr c3
 have c3b1 : (t104 != 0) = false := bne_eq_false_iff_eq.mpr c3
 clear c3
 by_cases c4 : (l0.length : Int) > 0
 rotate_left
 · rw [if_neg c4] at H
   have c4b1 : decide (0 < l0.length) = false := decide_eq_false (by omega)
   clear c4
   obtain rfl := Option.some.inj H
   go_enter Try.func60, Try.ntmps60
   go_wp2_with ((with_reducible refine gate_callee (f := 22) rfl ?_); refine goesL_ (some 5) rfl rfl Try.func22 (by kernel_rfl) rfl #[.slice A0 l0.length c0] rfl (by (try simp only [List.map_toArray, List.map_cons, List.map_nil]); first | done | rfl | (simp only [List.length_drop, List.length_take]; rfl)) ?_; (with_reducible refine (exact_CheckMatrix.calls k _ _ l0 t104 _ ?side1 ?side2 A2.out).mono ?_); (case side1 => exact kc HR0.out); (case side2 => exact HC0.out); rintro e w' ⟨rfl, ⟨nd, rfl⟩⟩; refine ⟨_, rfl, ?_⟩)
   go_ret
   exact ⟨by first | rfl | (simp; done) | (simp [*]; done), by repeat (first | exact Drawn0.refl _ | apply Drawn0.step)⟩
 rw [if_pos c4] at H
 have c4b0 : decide (0 < (l0.length : Int)) = true := decide_eq_true c4
 have c4b1 : decide (0 < l0.length) = true := decide_eq_true (by omega)
 clear c4
 by_cases c5 : 0 < (l0.length : Int)
 rotate_left
 · rw [if_neg c5] at H
   exact absurd H (by simp)
 rw [if_pos c5] at H
 have c5b0 : decide (0 < (l0.length : Int)) = true := decide_eq_true c5
 have c5b1 : decide (0 < l0.length) = true := decide_eq_true (by omega)
 clear c5
 by_cases c6 : ((rd_L1 l0 0).length : Int) = (l0.length : Int)
 rotate_left
 · rw [if_neg c6] at H
   have c6b1 : (((rd_L1 l0 0).length : Int) != (l0.length : Int)) = true := bne_iff_ne.mpr c6
   obtain rfl := Option.some.inj H
   go_enter Try.func60, Try.ntmps60
   go_wp2_with ((with_reducible refine gate_callee (f := 22) rfl ?_); refine goesL_ (some 5) rfl rfl Try.func22 (by kernel_rfl) rfl #[.slice A0 l0.length c0] rfl (by (try simp only [List.map_toArray, List.map_cons, List.map_nil]); first | done | rfl | (simp only [List.length_drop, List.length_take]; rfl)) ?_; (with_reducible refine (exact_CheckMatrix.calls k _ _ l0 t104 _ ?side1 ?side2 A2.out).mono ?_); (case side1 => exact kc HR0.out); (case side2 => exact HC0.out); rintro e w' ⟨rfl, ⟨nd, rfl⟩⟩; refine ⟨_, rfl, ?_⟩; have p105 : 0 ≤ (0 : Int) := (by omega); have q105 : 0 < (l0.length : Int) := of_decide_eq_true (by first | (with_reducible assumption) | assumption); obtain ⟨ad105, A105_0, c105_0, e105, hx105_0, hl105_0, hi105_0⟩ := at_L1 HR0.out 0 p105 q105; cases e105; have qi105 : (0 < l0.length) = True := eq_true (by omega); (try rw [show ((0 : Int)).toNat = 0 from rfl] at hx105_0); (try rw [Addr.add_zero'] at hx105_0); clear hi105_0 hl105_0; replace p105 := eq_true p105; replace q105 := eq_true q105)
   go_ret
   exact ⟨by first | rfl | (simp; done) | (simp [*]; done), by repeat (first | exact Drawn0.refl _ | apply Drawn0.step)⟩
 rw [if_pos c6] at H
 have c6b1 : (((rd_L1 l0 0).length : Int) != (l0.length : Int)) = false := bne_eq_false_iff_eq.mpr c6
 clear c6
 obtain rfl := Option.some.inj H
 go_enter Try.func60, Try.ntmps60
 go_wp2_with ((with_reducible refine gate_callee (f := 22) rfl ?_); refine goesL_ (some 5) rfl rfl Try.func22 (by kernel_rfl) rfl #[.slice A0 l0.length c0] rfl (by (try simp only [List.map_toArray, List.map_cons, List.map_nil]); first | done | rfl | (simp only [List.length_drop, List.length_take]; rfl)) ?_; (with_reducible refine (exact_CheckMatrix.calls k _ _ l0 t104 _ ?side1 ?side2 A2.out).mono ?_); (case side1 => exact kc HR0.out); (case side2 => exact HC0.out); rintro e w' ⟨rfl, ⟨nd, rfl⟩⟩; refine ⟨_, rfl, ?_⟩; have p105 : 0 ≤ (0 : Int) := (by omega); have q105 : 0 < (l0.length : Int) := of_decide_eq_true (by first | (with_reducible assumption) | assumption); obtain ⟨ad105, A105_0, c105_0, e105, hx105_0, hl105_0, hi105_0⟩ := at_L1 HR0.out 0 p105 q105; cases e105; have qi105 : (0 < l0.length) = True := eq_true (by omega); (try rw [show ((0 : Int)).toNat = 0 from rfl] at hx105_0); (try rw [Addr.add_zero'] at hx105_0); clear hi105_0 hl105_0; replace p105 := eq_true p105; replace q105 := eq_true q105)
 go_ret
 exact ⟨by first | rfl | (simp; done) | (simp [*]; done), by repeat (first | exact Drawn0.refl _ | apply Drawn0.step)⟩

end Go.Proofs.Ytlbljdjbcbgnlaa.PX
namespace Go.Proofs.Ytlbljdjbcbgnlaa.PX
open Go.RowKit Go.Proofs.YtlbljdjbcbgnlaaW.PrintWords Go.Proofs.YtlbljdjbcbgnlaaW.PrintLast Go.Proofs.YtlbljdjbcbgnlaaW.PrintMore
attribute [local go_sem] max2_int min2_int max_two min_two max_three min_three max_four min_four   -- for this text's walks alone
set_option linter.unusedVariables false
set_option linter.unusedSimpArgs false

-- the contract of function 68 (maskwright/exact.made): written by hand
/-! ### exact_made: function 68 -/
theorem w64x {x : Int} (h0 : -9223372036854775808 ≤ x) (h1 : x ≤ 9223372036854775807) : wrap64 x = x := by
 unfold wrap64
 omega
/-- A number's places without the zeros at the end. -/
def trimV (l : List Int) : List Int := (l.reverse.dropWhile (fun x => x == 0)).reverse
theorem trimV_nil : trimV [] = [] := rfl
theorem trimV_zero (l : List Int) : trimV (l ++ [0]) = trimV l := by simp [trimV]
theorem trimV_last (l : List Int) (x : Int) (h : x ≠ 0) : trimV (l ++ [x]) = l ++ [x] := by simp [trimV, h]
theorem last_split (l : List Int) (h : 0 < l.length) : l = l.take (l.length - 1) ++ [l.getD (l.length - 1) 0] := by
 have h2 : l.length - 1 < l.length := by omega
 conv => lhs; rw [← List.take_append_drop (l.length - 1) l]
 congr 1
 rw [List.drop_eq_getElem_cons h2, List.drop_of_length_le (by omega), List.getD_eq_getElem?_getD, List.getElem?_eq_getElem h2]
 rfl
def madeP.l0 : Nat → Bool → List Int → Option (Bool × List Int)
 | 0, _, _ => none
 | k + 1, x0, x1 => if (x1.length : Int) > 0 then (if 0 ≤ (wrap64 ((x1.length : Int) - 1)) then (if (wrap64 ((x1.length : Int) - 1)) < (x1.length : Int) then (if (rd x1 (wrap64 ((x1.length : Int) - 1))) = 0 then (if (wrap64 ((x1.length : Int) - 1)) ≤ (x1.length : Int) then (madeP.l0 k x0 (x1.take ((wrap64 ((x1.length : Int) - 1)) : Int).toNat)) else (none)) else (if x0 = true then (some (decide ((x1.length : Int) > 0), x1)) else (some (false, x1)))) else (none)) else (none)) else (if x0 = true then (some (decide ((x1.length : Int) > 0), x1)) else (some (false, x1)))
def madeP.f (k : Nat) (a0 : Bool) (l1 : List Int) : Option (Bool × List Int) := madeP.l0 k a0 l1
theorem madeP.mono_l : ∀ k, (∀ y0 y1, LeO (madeP.l0 k y0 y1) (madeP.l0 (k + 1) y0 y1))
 | 0 => fun _ _ r h => by simp [madeP.l0] at h
 | k + 1 => by
  have ih0 := madeP.mono_l k
  · intro y0 y1
    unfold madeP.l0
    repeat' first
    | (with_reducible exact ih0 _ _)
    | (with_reducible exact LeO.refl _)
    | (with_reducible exact LeO.none _)
    | (with_reducible refine LeO.ite ?_ ?_)
    | (with_reducible refine LeO.bind ?_ (fun _ => ?_))
theorem madeP.mono : ∀ a0 a1 k, LeO (madeP.f k a0 a1) (madeP.f (k + 1) a0 a1) := by
 intro a0 a1 k
 have ih0 := madeP.mono_l k
 unfold madeP.f
 repeat' first
  | (with_reducible exact ih0 _ _)
  | (with_reducible exact LeO.refl _)
  | (with_reducible exact LeO.none _)
  | (with_reducible refine LeO.ite ?_ ?_)
  | (with_reducible refine LeO.bind ?_ (fun _ => ?_))
set_option maxHeartbeats 8000000 in
set_option maxRecDepth 100000 in
theorem madeP.calls (k : Nat) (a0 : Bool) (P1_ : Nat → Prop) (A1 : Option Addr) (c1 : Nat) (l1 : List Int) (r1 : Bool) (r2 : List Int) (w : World) (hs1 : Kd.V (Kd.int .u32) 97 w w.heap.size (fun k_ => P1_ k_) (.slice A1 l1.length c1) l1) (h : madeP.f k a0 l1 = some (r1, r2)) :
 Calls Try.prog 68 #[.bool a0, .slice A1 l1.length c1] w fun e w' => ∃ v1_ : Value, e = .returned (.agg #[.bool r1, v1_]) ∧ Kd.V (Kd.int .u32) 97 w' w.heap.size (fun k_ => (P1_ k_ ∨ w.heap.size ≤ k_)) v1_ r2 ∧ Below w.heap.size w w' := by
 have HO1 := Aside0.mk (show Kd.V (Kd.int .u32) 97 w w.heap.size (fun k_ => (P1_ k_ ∨ w.heap.size ≤ k_)) (.slice A1 l1.length c1) l1 from Kd.V_mono hs1 (fun k_ hk => .inl hk))
 have HB := Aside0.mk (Below.refl w.heap.size w)
 have H : (madeP.l0 k a0 l1) = some (r1, r2) := h
 clear h
 have H' := Aside0.mk H
 clear H
 go_enter Try.func68, Try.ntmps68
 go_wp2_with ((with_reducible refine gate_dst (N := 4) rfl ?_); (try (refine gate_guard (by rfl) ?_; dsimp only)); refine box_event ?hg (N := 4) ?hd (cs := #[.bool false, .slice none 0 0]) (t := 43) ?hr ?_; (case hd => rfl); (case hg => rfl); (case hr => first | (go_simp; done) | (go_simp; rfl)); intro gb106 hg w3 hbox hb; replace HO1 := Aside0.mk (Kd.V_below (Kd.V_elderB (by (with_reducible repeat (first | apply Kd.V_alloc | apply Kd.V_drewN | apply Kd.V_drew)); exact HO1.out) gb106 (Nat.le_of_eq hg.symm)) hb); have BK106 := Aside0.mk (hbox); have GE106 := Aside0.mk (ge (w := w) hg); replace HB := Aside0.mk (below_step bl hb); clear hb hbox hg)
 simp only [Act.put, List.setIfInBounds_toArray, List.set_cons_zero, List.set_cons_succ]
 go_loopg [1] k (fun kq v1 w' => ∃ (x1_1 : List Int), Aside0 (madeP.l0 kq a0 x1_1 = some (r1, r2)) ∧ Aside0 (kq ≤ k) ∧ Aside0 (Kd.V (Kd.int .u32) 97 w' w.heap.size (fun k_ => (P1_ k_ ∨ w.heap.size ≤ k_) ∧ k_ ≠ gb106) v1 x1_1) ∧ Aside0 (w'.heap[gb106]? = some (.cells #[.bool false, (.slice none 0 0)] 43 (0, 0))) ∧ Aside0 (Below w.heap.size w w'))
 case atStart => exact ⟨(l1), H', ⟨Nat.le_refl _⟩, ⟨by (with_reducible repeat (first | apply Kd.V_alloc | apply Kd.V_drewN | apply Kd.V_drew)); exact HO1.out⟩, ⟨bk BK106.out⟩, ⟨bl⟩⟩
 clear H'
 obtain ⟨x1_1, HA, HK1, HO_1, BK106, HB⟩ := hrel
 cases gk with
 | zero => exact absurd HA.out (by simp [madeP.l0])
 | succ k1 =>
  have H := HA.out
  clear HA
  simp only [madeP.l0] at H
  by_cases c4 : (x1_1.length : Int) > 0
  rotate_left
  · rw [if_neg c4] at H
    have c4b0 : decide (0 < (x1_1.length : Int)) = false := decide_eq_false c4
    have c4b1 : decide (0 < x1_1.length) = false := decide_eq_false (by omega)
    clear c4
    by_cases c18 : a0 = true
    · subst c18
      have H1 : (some (decide ((x1_1.length : Int) > 0), x1_1)) = some (r1, r2) := by rw [if_pos rfl] at H; exact H
      clear H
      have H := H1
      clear H1
      simp only [Option.some.injEq, Prod.mk.injEq] at H
      obtain ⟨rfl, rfl⟩ := H
      obtain ⟨Ao19, co19, eo19⟩ := Kd.V_slice HO_1.out
      subst eo19
      obtain ⟨hcz20_0, hcz20_1, hfz20_0, hfz20_1⟩ := bz2 BK106.out
      go_wp2
      refine bodyPost_ret (results_cell_row rfl _ _ gb106 43 #[.bool false, .slice Ao19 x1_1.length co19] (0, 0) _ rfl (by (with_reducible repeat (first | refine blk_drewN ?_ _ | refine blk_drew ?_ | refine blk_alloc ?_ _)); refine blk_put (cs := #[.bool false, .slice none 0 0]) ?_ 1 _ rfl; (with_reducible repeat (first | refine blk_drewN ?_ _ | refine blk_drew ?_ | refine blk_alloc ?_ _)); refine blk_put (cs := #[.bool false, .slice none 0 0]) ?_ 0 _ rfl; (with_reducible repeat (first | refine blk_drewN ?_ _ | refine blk_drew ?_ | refine blk_alloc ?_ _)); exact BK106.out) Try.underlying43 rfl (by kernel_rfl)) rfl ?_
      exact ⟨_, by first | rfl | (simp only [gt_iff_lt, c4b0]; done) | (simp only [gt_iff_lt, c4b0]; rfl) | (simp [errW_none, errW_some] <;> rfl) | (simp [*, errW_none, errW_some] <;> rfl), by (with_reducible repeat (first | apply Kd.V_alloc | apply Kd.V_drewN | apply Kd.V_drew)); exact Kd.V_mono (Kd.V_far (p := ⟨gb106, 1, none⟩) (Kd.V_far (p := ⟨gb106, 0, none⟩) (Kd.V_mono HO_1.out (fun k_ hk => (⟨hk, hk.2⟩ : _ ∧ k_ ≠ gb106))) (fun _ hk => hk.2) (.bool false)) (fun _ hk => hk.2) (.slice Ao19 x1_1.length co19)) (fun _ hk => hk.1.1), bl⟩
    replace c18 := Bool.eq_false_iff.mpr c18
    subst c18
    have H1 : (some (false, x1_1)) = some (r1, r2) := by rw [if_neg (show ¬ (false = true) by decide)] at H; exact H
    clear H
    have H := H1
    clear H1
    simp only [Option.some.injEq, Prod.mk.injEq] at H
    obtain ⟨rfl, rfl⟩ := H
    obtain ⟨Ao21, co21, eo21⟩ := Kd.V_slice HO_1.out
    subst eo21
    obtain ⟨hcz22_0, hcz22_1, hfz22_0, hfz22_1⟩ := bz2 BK106.out
    go_wp2
    refine bodyPost_ret (results_cell_row rfl _ _ gb106 43 #[.bool false, .slice Ao21 x1_1.length co21] (0, 0) _ rfl (by (with_reducible repeat (first | refine blk_drewN ?_ _ | refine blk_drew ?_ | refine blk_alloc ?_ _)); refine blk_put (cs := #[.bool false, .slice none 0 0]) ?_ 1 _ rfl; (with_reducible repeat (first | refine blk_drewN ?_ _ | refine blk_drew ?_ | refine blk_alloc ?_ _)); refine blk_put (cs := #[.bool false, .slice none 0 0]) ?_ 0 _ rfl; (with_reducible repeat (first | refine blk_drewN ?_ _ | refine blk_drew ?_ | refine blk_alloc ?_ _)); exact BK106.out) Try.underlying43 rfl (by kernel_rfl)) rfl ?_
    exact ⟨_, by first | rfl | (simp [errW_none, errW_some] <;> rfl) | (simp [*, errW_none, errW_some] <;> rfl), by (with_reducible repeat (first | apply Kd.V_alloc | apply Kd.V_drewN | apply Kd.V_drew)); exact Kd.V_mono (Kd.V_far (p := ⟨gb106, 1, none⟩) (Kd.V_far (p := ⟨gb106, 0, none⟩) (Kd.V_mono HO_1.out (fun k_ hk => (⟨hk, hk.2⟩ : _ ∧ k_ ≠ gb106))) (fun _ hk => hk.2) (.bool false)) (fun _ hk => hk.2) (.slice Ao21 x1_1.length co21)) (fun _ hk => hk.1.1), bl⟩
  rw [if_pos c4] at H
  have c4b0 : decide (0 < (x1_1.length : Int)) = true := decide_eq_true c4
  have c4b1 : decide (0 < x1_1.length) = true := decide_eq_true (by omega)
  clear c4
  obtain ⟨ji5, hji5⟩ : ∃ j_ : Int, (wrap64 ((x1_1.length : Int) - 1)) = j_ := ⟨_, rfl⟩
  replace H : (if 0 ≤ (ji5) then (if (ji5) < (x1_1.length : Int) then (if (rd x1_1 (ji5)) = 0 then (if (ji5) ≤ (x1_1.length : Int) then (madeP.l0 k1 a0 (x1_1.take ((ji5) : Int).toNat)) else (none)) else (if a0 = true then (some (decide ((x1_1.length : Int) > 0), x1_1)) else (some (false, x1_1)))) else (none)) else (none)) = some (r1, r2) := by first | (rw [hji5] at H; exact H) | (simp only [hji5] at H ⊢; exact H)
  have hji5w : (IntKind.i64.wrap ((x1_1.length : Int) - 1)) = ji5 := (i64_w _).trans hji5
  by_cases c6 : 0 ≤ (ji5)
  rotate_left
  · rw [if_neg c6] at H
    exact absurd H (by simp)
  rw [if_pos c6] at H
  have c6b0 : decide (0 ≤ (ji5)) = true := decide_eq_true c6
  clear c6
  by_cases c7 : (ji5) < (x1_1.length : Int)
  rotate_left
  · rw [if_neg c7] at H
    exact absurd H (by simp)
  rw [if_pos c7] at H
  have c7b0 : decide ((ji5) < (x1_1.length : Int)) = true := decide_eq_true c7
  clear c7
  by_cases c8 : (rd x1_1 (ji5)) = 0
  · rw [if_pos c8] at H
    have c8b0 : ((rd x1_1 (ji5)) == 0) = true := beq_iff_eq.mpr c8
    have c8b1 : ((rd x1_1 (ji5)) != 0) = false := bne_eq_false_iff_eq.mpr c8
    clear c8
    have c9b0 := eq_true (of_decide_eq_true (by first | (with_reducible assumption) | assumption) : 0 ≤ (ji5))
    by_cases c10 : (ji5) ≤ (x1_1.length : Int)
    rotate_left
    · rw [if_neg c10] at H
      exact absurd H (by simp)
    rw [if_pos c10] at H
    have c10b1 : decide ((ji5) ≤ (x1_1.length : Int)) = true := decide_eq_true c10
    clear c10
    obtain ⟨y108, hy108⟩ : ∃ y_ : List Int, y_ = (x1_1.take ((ji5) : Int).toNat) := ⟨_, rfl⟩
    replace H : (madeP.l0 k1 a0 y108) = some (r1, r2) := by first | (rw [hy108]; with_reducible exact H) | (have H2_ := (Option.bind_some _ _).symm.trans H; rw [hy108]; with_reducible exact H2_) | (have H2_ := (Option.bind_some _ _).symm.trans H; with_reducible exact H2_) | with_reducible exact H | (rw [hy108]; exact H) | exact H
    have Ny108 := Aside0.mk hy108
    clear hy108
    have H' := Aside0.mk H
    clear H
    obtain ⟨Ao11, co11, eo11⟩ := Kd.V_slice HO_1.out
    subst eo11
    have p107 : 0 ≤ ((ji5) : Int) := of_decide_eq_true (by first | (with_reducible assumption) | assumption)
    have q107 : (ji5) < (x1_1.length : Int) := of_decide_eq_true (by first | (with_reducible assumption) | assumption)
    obtain ⟨ad107, e107, hx107_0⟩ := Kd.at_int (Kd.V_reads' HO_1.out).2.2 (ji5) p107 q107
    cases e107
    replace p107 := eq_true p107
    replace q107 := eq_true q107
    have q12 : ((ji5) : Int) ≤ ((x1_1.length : Int) : Int) := of_decide_eq_true (by first | (with_reducible assumption) | assumption)
    obtain ⟨i012, hi012, _, hsz12, _⟩ := info_parts info97
    have hroom12 : x1_1.length ≤ co11 := (Kd.V_reads' HO_1.out).2.1
    have hC12 : Kd.F (Kd.int .u32) _ _ (some ad107) x1_1.length x1_1 := (Kd.V_at (base := w.heap.size) HO_1.out).2.2
    have hcut12 := cut_to (P := Try.prog) 41 97 .i64 Try.underlying41 hi012 (some ad107) x1_1.length co11 (ji5) (of_decide_eq_true (by first | (with_reducible assumption) | assumption)) q12 hroom12
    have hr12 := Kd.F_take (m := ((ji5) : Int).toNat) hC12 (by omega)
    have hy12 : y108.length = ((ji5) : Int).toNat := (by rw [Ny108.out, List.length_take]; omega)
    rw [← Ny108.out] at hr12
    rw [← hy12] at hcut12
    have HO112 := Aside0.mk (show Kd.V (Kd.int .u32) 97 _ w.heap.size _ (.slice (some ad107) y108.length co11) y108 from Kd.V_mk (by omega) hr12)
    clear hr12 hC12 hroom12 hi012 hsz12
    clear hy12
    replace q12 := eq_true q12
    go_wp2
    go_roundg k1
    case measure => have := HK1.out; omega
    case rel => exact ⟨(y108), H', ⟨by have := HK1.out; omega⟩, ⟨by (with_reducible repeat (first | apply Kd.V_alloc | apply Kd.V_drewN | apply Kd.V_drew)); exact HO112.out⟩, ⟨bk BK106.out⟩, ⟨bl⟩⟩
  rw [if_neg c8] at H
  have c8b0 : ((rd x1_1 (ji5)) == 0) = false := beq_eq_false_iff_ne.mpr c8
  by_cases c13 : a0 = true
  · subst c13
    have H1 : (some (decide ((x1_1.length : Int) > 0), x1_1)) = some (r1, r2) := by rw [if_pos rfl] at H; exact H
    clear H
    have H := H1
    clear H1
    simp only [Option.some.injEq, Prod.mk.injEq] at H
    obtain ⟨rfl, rfl⟩ := H
    obtain ⟨Ao14, co14, eo14⟩ := Kd.V_slice HO_1.out
    subst eo14
    have p107 : 0 ≤ ((ji5) : Int) := of_decide_eq_true (by first | (with_reducible assumption) | assumption)
    have q107 : (ji5) < (x1_1.length : Int) := of_decide_eq_true (by first | (with_reducible assumption) | assumption)
    obtain ⟨ad107, e107, hx107_0⟩ := Kd.at_int (Kd.V_reads' HO_1.out).2.2 (ji5) p107 q107
    cases e107
    replace p107 := eq_true p107
    replace q107 := eq_true q107
    obtain ⟨hcz15_0, hcz15_1, hfz15_0, hfz15_1⟩ := bz2 BK106.out
    go_wp2
    refine bodyPost_ret (results_cell_row rfl _ _ gb106 43 #[.bool true, .slice (some ad107) x1_1.length co14] (0, 0) _ rfl (by (with_reducible repeat (first | refine blk_drewN ?_ _ | refine blk_drew ?_ | refine blk_alloc ?_ _)); refine blk_put (cs := #[.bool true, .slice none 0 0]) ?_ 1 _ rfl; (with_reducible repeat (first | refine blk_drewN ?_ _ | refine blk_drew ?_ | refine blk_alloc ?_ _)); refine blk_put (cs := #[.bool false, .slice none 0 0]) ?_ 0 _ rfl; (with_reducible repeat (first | refine blk_drewN ?_ _ | refine blk_drew ?_ | refine blk_alloc ?_ _)); exact BK106.out) Try.underlying43 rfl (by kernel_rfl)) rfl ?_
    exact ⟨_, by first | rfl | (simp only [gt_iff_lt, c4b0]; done) | (simp only [gt_iff_lt, c4b0]; rfl) | (simp [errW_none, errW_some] <;> rfl) | (simp only [← hji5]; first | rfl | (simp [errW_none, errW_some] <;> rfl)) | (simp [*, errW_none, errW_some] <;> rfl), by (with_reducible repeat (first | apply Kd.V_alloc | apply Kd.V_drewN | apply Kd.V_drew)); exact Kd.V_mono (Kd.V_far (p := ⟨gb106, 1, none⟩) (Kd.V_far (p := ⟨gb106, 0, none⟩) (Kd.V_mono HO_1.out (fun k_ hk => (⟨hk, hk.2⟩ : _ ∧ k_ ≠ gb106))) (fun _ hk => hk.2) (.bool true)) (fun _ hk => hk.2) (.slice (some ad107) x1_1.length co14)) (fun _ hk => hk.1.1), bl⟩
  replace c13 := Bool.eq_false_iff.mpr c13
  subst c13
  have H1 : (some (false, x1_1)) = some (r1, r2) := by rw [if_neg (show ¬ (false = true) by decide)] at H; exact H
  clear H
  have H := H1
  clear H1
  simp only [Option.some.injEq, Prod.mk.injEq] at H
  obtain ⟨rfl, rfl⟩ := H
  obtain ⟨Ao16, co16, eo16⟩ := Kd.V_slice HO_1.out
  subst eo16
  have p107 : 0 ≤ ((ji5) : Int) := of_decide_eq_true (by first | (with_reducible assumption) | assumption)
  have q107 : (ji5) < (x1_1.length : Int) := of_decide_eq_true (by first | (with_reducible assumption) | assumption)
  obtain ⟨ad107, e107, hx107_0⟩ := Kd.at_int (Kd.V_reads' HO_1.out).2.2 (ji5) p107 q107
  cases e107
  replace p107 := eq_true p107
  replace q107 := eq_true q107
  obtain ⟨hcz17_0, hcz17_1, hfz17_0, hfz17_1⟩ := bz2 BK106.out
  go_wp2
  refine bodyPost_ret (results_cell_row rfl _ _ gb106 43 #[.bool false, .slice (some ad107) x1_1.length co16] (0, 0) _ rfl (by (with_reducible repeat (first | refine blk_drewN ?_ _ | refine blk_drew ?_ | refine blk_alloc ?_ _)); refine blk_put (cs := #[.bool false, .slice none 0 0]) ?_ 1 _ rfl; (with_reducible repeat (first | refine blk_drewN ?_ _ | refine blk_drew ?_ | refine blk_alloc ?_ _)); refine blk_put (cs := #[.bool false, .slice none 0 0]) ?_ 0 _ rfl; (with_reducible repeat (first | refine blk_drewN ?_ _ | refine blk_drew ?_ | refine blk_alloc ?_ _)); exact BK106.out) Try.underlying43 rfl (by kernel_rfl)) rfl ?_
  exact ⟨_, by first | rfl | (simp [errW_none, errW_some] <;> rfl) | (simp only [← hji5]; first | rfl | (simp [errW_none, errW_some] <;> rfl)) | (simp [*, errW_none, errW_some] <;> rfl), by (with_reducible repeat (first | apply Kd.V_alloc | apply Kd.V_drewN | apply Kd.V_drew)); exact Kd.V_mono (Kd.V_far (p := ⟨gb106, 1, none⟩) (Kd.V_far (p := ⟨gb106, 0, none⟩) (Kd.V_mono HO_1.out (fun k_ hk => (⟨hk, hk.2⟩ : _ ∧ k_ ≠ gb106))) (fun _ hk => hk.2) (.bool false)) (fun _ hk => hk.2) (.slice (some ad107) x1_1.length co16)) (fun _ hk => hk.1.1), bl⟩

theorem madeP.eq : ∀ (k : Nat) (a : Bool) (x : List Int), x.length < k → x.length ≤ 9223372036854775807 → madeP.l0 k a x = some (a && decide (0 < (trimV x).length), trimV x)
 | 0, _, _, h, _ => absurd h (Nat.not_lt_zero _)
 | k + 1, a, x, h, hm => by
  unfold madeP.l0
  by_cases c : (x.length : Int) > 0
  · rw [if_pos c]
    have w1 : wrap64 ((x.length : Int) - 1) = (x.length : Int) - 1 := w64x (by omega) (by omega)
    rw [w1, if_pos (by omega), if_pos (by omega)]
    have hx := last_split x (by omega)
    have hr : rd x ((x.length : Int) - 1) = x.getD (x.length - 1) 0 := by
     unfold rd
     rw [show ((x.length : Int) - 1).toNat = x.length - 1 by omega]
    have ht : ((x.length : Int) - 1).toNat = x.length - 1 := by omega
    by_cases z : rd x ((x.length : Int) - 1) = 0
    · rw [if_pos z, if_pos (by omega), ht]
      rw [madeP.eq k a _ (by rw [List.length_take]; omega) (by rw [List.length_take]; omega)]
      have e : trimV x = trimV (x.take (x.length - 1)) := by
       rw [hr] at z
       rw [z] at hx
       conv => lhs; rw [hx]
       exact trimV_zero _
      rw [e]
    · rw [if_neg z]
      have e : trimV x = x := by
       rw [hr] at z
       conv => lhs; rw [hx]
       rw [trimV_last _ _ z]
       exact hx.symm
      rw [e]
      cases a <;> simp
  · rw [if_neg c]
    have : x = [] := List.eq_nil_of_length_eq_zero (by omega)
    subst this
    cases a <;> rfl
def exact_made.f (a0 : Bool) (l1 : List Int) : Option (Bool × List Int) := some (a0 && decide (0 < (trimV l1).length), trimV l1)
theorem exact_made.calls (a0 : Bool) (P1_ : Nat → Prop) (A1 : Option Addr) (c1 : Nat) (l1 : List Int) (r1 : Bool) (r2 : List Int) (w : World) (hs1 : Kd.V (Kd.int .u32) 97 w w.heap.size (fun k_ => P1_ k_) (.slice A1 l1.length c1) l1) (h : exact_made.f a0 l1 = some (r1, r2)) :
 Calls Try.prog 68 #[.bool a0, .slice A1 l1.length c1] w fun e w' => ∃ v1_ : Value, e = .returned (.agg #[.bool r1, v1_]) ∧ Kd.V (Kd.int .u32) 97 w' w.heap.size (fun k_ => (P1_ k_ ∨ w.heap.size ≤ k_)) v1_ r2 ∧ Below w.heap.size w w' :=
 madeP.calls (l1.length + 1) a0 P1_ A1 c1 l1 r1 r2 w hs1 ((madeP.eq _ _ _ (Nat.lt_succ_self _) (Kd.F_max (Kd.V_at hs1).2.2)).trans h)

end Go.Proofs.Ytlbljdjbcbgnlaa.PX
namespace Go.Proofs.Ytlbljdjbcbgnlaa.PX
open Go.RowKit Go.Proofs.YtlbljdjbcbgnlaaW.PrintWords Go.Proofs.YtlbljdjbcbgnlaaW.PrintLast Go.Proofs.YtlbljdjbcbgnlaaW.PrintMore
attribute [local go_sem] max2_int min2_int max_two min_two max_three min_three max_four min_four   -- for this text's walks alone
set_option linter.unusedVariables false
set_option linter.unusedSimpArgs false

-- the contract of function 27 (maskwright/exact.Of): written by hand
/-! ### exact_Of: function 27 -/
theorem outV {W : World} {b g : Nat} {v : Value} {xs : List Int} {ok ok' : Nat → Prop} (h : Kd.V (Kd.int .u32) 97 W b ok v xs) (hok : ∀ k, ok k → k ≠ g) (x y : Value) (hok' : ∀ k, ok k → ok' k) : Kd.V (Kd.int .u32) 97 ((W.setCell ⟨g, 0, none⟩ x).setCell ⟨g, 1, none⟩ y) b ok' v xs :=
 Kd.V_mono (Kd.V_far (Kd.V_far (p := ⟨g, 0, none⟩) h hok x) (p := ⟨g, 1, none⟩) hok y) hok'
def mgM (a0 : Int) : Int := if a0 < 0 then IntKind.u64.wrap (-IntKind.u64.wrap a0) else IntKind.u64.wrap a0
def ofM (a0 : Int) : List Int := [mgM a0 % 4294967296, mgM a0 / 4294967296 % 4294967296]
def exact_Of.f (a0 : Int) : Option (Bool × List Int) := some (decide (a0 < 0) && decide (0 < (trimV (ofM a0)).length), trimV (ofM a0))
set_option maxHeartbeats 8000000 in
set_option maxRecDepth 100000 in
theorem exact_Of.calls (a0 : Int) (r1 : Bool) (r2 : List Int) (w : World) (h : exact_Of.f a0 = some (r1, r2)) :
 Calls Try.prog 27 #[.int .i64 a0] w fun e w' => ∃ v1_ : Value, e = .returned (.agg #[.bool r1, v1_]) ∧ Kd.V (Kd.int .u32) 97 w' w.heap.size (fun k_ => (w.heap.size ≤ k_)) v1_ r2 ∧ Below w.heap.size w w' := by
 unfold exact_Of.f at h
 simp only [Option.some.injEq, Prod.mk.injEq] at h
 obtain ⟨rfl, rfl⟩ := h
 by_cases c : a0 < 0
 · have d0 : decide (a0 < 0) = true := decide_eq_true c
   have e0 : ofM a0 = [(IntKind.u64.wrap (-IntKind.u64.wrap a0) % 4294967296), (IntKind.u64.wrap (-IntKind.u64.wrap a0) / 4294967296 % 4294967296)] := by unfold ofM mgM; rw [if_pos c]
   rw [e0, d0]
   have HB := Aside0.mk (below_alloc (below_alloc (Below.refl w.heap.size w) (.cells #[.bool false, .slice none 0 0] 43)) (.cells #[.int .u32 (IntKind.u64.wrap (-IntKind.u64.wrap a0) % 4294967296), .int .u32 (IntKind.u64.wrap (-IntKind.u64.wrap a0) / 4294967296 % 4294967296)] 97))
   have BX := Aside0.mk (blk_alloc (blk_new w (.cells #[.bool false, .slice none 0 0] 43)) (.cells #[.int .u32 (IntKind.u64.wrap (-IntKind.u64.wrap a0) % 4294967296), .int .u32 (IntKind.u64.wrap (-IntKind.u64.wrap a0) / 4294967296 % 4294967296)] 97))
   have BR := Aside0.mk (Hnd.blk_new1 w (.cells #[.bool false, .slice none 0 0] 43) (.cells #[.int .u32 (IntKind.u64.wrap (-IntKind.u64.wrap a0) % 4294967296), .int .u32 (IntKind.u64.wrap (-IntKind.u64.wrap a0) / 4294967296 % 4294967296)] 97))
   go_enter Try.func27, Try.ntmps27
   go_wp2_with fail
   refine (exact_made.calls true (fun k => k = w.heap.size + 1) _ 2 [(IntKind.u64.wrap (-IntKind.u64.wrap a0) % 4294967296), (IntKind.u64.wrap (-IntKind.u64.wrap a0) / 4294967296 % 4294967296)] _ _ _ (Kd.V_mk (Nat.le_refl 2) (fun W' hW => Hnd.rowI [(IntKind.u64.wrap (-IntKind.u64.wrap a0) % 4294967296), (IntKind.u64.wrap (-IntKind.u64.wrap a0) / 4294967296 % 4294967296)] ((hW _ rfl (blk_lt BR.out)).trans BR.out) rfl (show 2 ≤ 9223372036854775807 by decide))) rfl).mono ?_
   rintro e w2 ⟨v1, rfl, hV, hb⟩
   have hlt := blk_lt BX.out
   have hlt1 := blk_lt BR.out
   replace HB := Aside0.mk (below_step HB.out hb)
   replace BX := Aside0.mk (blk_below BX.out hb)
   have HV := Aside0.mk hV
   have hok : Aside0 (∀ k, (k = w.heap.size + 1 ∨ ((w.alloc (.cells #[.bool false, .slice none 0 0] 43)).alloc (.cells #[.int .u32 (IntKind.u64.wrap (-IntKind.u64.wrap a0) % 4294967296), .int .u32 (IntKind.u64.wrap (-IntKind.u64.wrap a0) / 4294967296 % 4294967296)] 97)).heap.size ≤ k) → k ≠ w.heap.size ∧ w.heap.size ≤ k) := ⟨fun k hk => by omega⟩
   clear hV hb hlt hlt1
   obtain ⟨A1, c1, rfl⟩ := Kd.V_slice HV.out
   have z0 : w2.cell? ⟨w.heap.size, 0, none⟩ = some (.bool false) := (blk_cell BX.out 0).trans rfl
   have z1 : w2.cell? ⟨w.heap.size, 1, none⟩ = some (.slice none 0 0) := (blk_cell BX.out 1).trans rfl
   have y0 := blk_frozen BX.out 0
   have y1 := blk_frozen BX.out 1
   go_wp2
   refine bodyPost_ret (results_cell_row rfl _ _ w.heap.size 43 #[.bool (true && decide (0 < (trimV [(IntKind.u64.wrap (-IntKind.u64.wrap a0) % 4294967296), (IntKind.u64.wrap (-IntKind.u64.wrap a0) / 4294967296 % 4294967296)]).length)), .slice A1 (trimV [(IntKind.u64.wrap (-IntKind.u64.wrap a0) % 4294967296), (IntKind.u64.wrap (-IntKind.u64.wrap a0) / 4294967296 % 4294967296)]).length c1] (0, 0) _ rfl (blk_put (cs := #[.bool (true && decide (0 < (trimV [(IntKind.u64.wrap (-IntKind.u64.wrap a0) % 4294967296), (IntKind.u64.wrap (-IntKind.u64.wrap a0) / 4294967296 % 4294967296)]).length)), .slice none 0 0]) (blk_put (cs := #[.bool false, .slice none 0 0]) BX.out 0 _ rfl) 1 _ rfl) Try.underlying43 rfl (by kernel_rfl)) rfl ?_
   exact ⟨_, rfl, outV HV.out (fun k hk => (hok.out k hk).1) _ _ (fun k hk => (hok.out k hk).2), below_set (below_set HB.out (Nat.le_refl _)) (Nat.le_refl _)⟩
 have d0 : decide (a0 < 0) = false := decide_eq_false c
 have e0 : ofM a0 = [(IntKind.u64.wrap a0 % 4294967296), (IntKind.u64.wrap a0 / 4294967296 % 4294967296)] := by unfold ofM mgM; rw [if_neg c]
 rw [e0, d0]
 have HB := Aside0.mk (below_alloc (below_alloc (Below.refl w.heap.size w) (.cells #[.bool false, .slice none 0 0] 43)) (.cells #[.int .u32 (IntKind.u64.wrap a0 % 4294967296), .int .u32 (IntKind.u64.wrap a0 / 4294967296 % 4294967296)] 97))
 have BX := Aside0.mk (blk_alloc (blk_new w (.cells #[.bool false, .slice none 0 0] 43)) (.cells #[.int .u32 (IntKind.u64.wrap a0 % 4294967296), .int .u32 (IntKind.u64.wrap a0 / 4294967296 % 4294967296)] 97))
 have BR := Aside0.mk (Hnd.blk_new1 w (.cells #[.bool false, .slice none 0 0] 43) (.cells #[.int .u32 (IntKind.u64.wrap a0 % 4294967296), .int .u32 (IntKind.u64.wrap a0 / 4294967296 % 4294967296)] 97))
 go_enter Try.func27, Try.ntmps27
 go_wp2_with fail
 refine (exact_made.calls false (fun k => k = w.heap.size + 1) _ 2 [(IntKind.u64.wrap a0 % 4294967296), (IntKind.u64.wrap a0 / 4294967296 % 4294967296)] _ _ _ (Kd.V_mk (Nat.le_refl 2) (fun W' hW => Hnd.rowI [(IntKind.u64.wrap a0 % 4294967296), (IntKind.u64.wrap a0 / 4294967296 % 4294967296)] ((hW _ rfl (blk_lt BR.out)).trans BR.out) rfl (show 2 ≤ 9223372036854775807 by decide))) rfl).mono ?_
 rintro e w2 ⟨v1, rfl, hV, hb⟩
 have hlt := blk_lt BX.out
 have hlt1 := blk_lt BR.out
 replace HB := Aside0.mk (below_step HB.out hb)
 replace BX := Aside0.mk (blk_below BX.out hb)
 have HV := Aside0.mk hV
 have hok : Aside0 (∀ k, (k = w.heap.size + 1 ∨ ((w.alloc (.cells #[.bool false, .slice none 0 0] 43)).alloc (.cells #[.int .u32 (IntKind.u64.wrap a0 % 4294967296), .int .u32 (IntKind.u64.wrap a0 / 4294967296 % 4294967296)] 97)).heap.size ≤ k) → k ≠ w.heap.size ∧ w.heap.size ≤ k) := ⟨fun k hk => by omega⟩
 clear hV hb hlt hlt1
 obtain ⟨A1, c1, rfl⟩ := Kd.V_slice HV.out
 have z0 : w2.cell? ⟨w.heap.size, 0, none⟩ = some (.bool false) := (blk_cell BX.out 0).trans rfl
 have z1 : w2.cell? ⟨w.heap.size, 1, none⟩ = some (.slice none 0 0) := (blk_cell BX.out 1).trans rfl
 have y0 := blk_frozen BX.out 0
 have y1 := blk_frozen BX.out 1
 go_wp2
 refine bodyPost_ret (results_cell_row rfl _ _ w.heap.size 43 #[.bool (false && decide (0 < (trimV [(IntKind.u64.wrap a0 % 4294967296), (IntKind.u64.wrap a0 / 4294967296 % 4294967296)]).length)), .slice A1 (trimV [(IntKind.u64.wrap a0 % 4294967296), (IntKind.u64.wrap a0 / 4294967296 % 4294967296)]).length c1] (0, 0) _ rfl (blk_put (cs := #[.bool (false && decide (0 < (trimV [(IntKind.u64.wrap a0 % 4294967296), (IntKind.u64.wrap a0 / 4294967296 % 4294967296)]).length)), .slice none 0 0]) (blk_put (cs := #[.bool false, .slice none 0 0]) BX.out 0 _ rfl) 1 _ rfl) Try.underlying43 rfl (by kernel_rfl)) rfl ?_
 exact ⟨_, rfl, outV HV.out (fun k hk => (hok.out k hk).1) _ _ (fun k hk => (hok.out k hk).2), below_set (below_set HB.out (Nat.le_refl _)) (Nat.le_refl _)⟩

end Go.Proofs.Ytlbljdjbcbgnlaa.PX
