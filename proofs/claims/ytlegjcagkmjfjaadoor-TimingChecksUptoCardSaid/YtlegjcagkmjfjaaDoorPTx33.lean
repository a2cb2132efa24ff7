-- PRINTED by print.py (a twelfth state) out of the translation. Not trusted: Lean checks it.
import Derived.Test.YtlegjcagkmjfjaaDoorCmp
import Derived.Test.YtlegjcagkmjfjaaDoorPTx0
import Derived.Test.YtlegjcagkmjfjaaDoorPTx27
import Derived.Test.YtlegjcagkmjfjaaDoorPTx12
import Derived.Test.YtlegjcagkmjfjaaDoorPTx16
import Derived.Test.YtlegjcagkmjfjaaDoorPTx15
namespace Go.Proofs.YtlegjcagkmjfjaaDoor.PT
open Go.RowKit Go.Proofs.YtlegjcagkmjfjaaDoorW.PrintWords Go.Proofs.YtlegjcagkmjfjaaDoorW.PrintLast Go.Proofs.YtlegjcagkmjfjaaDoorW.PrintMore
attribute [local go_sem] max2_int min2_int max_two min_two max_three min_three max_four min_four   -- for this text's walks alone
set_option linter.unusedVariables false
set_option linter.unusedSimpArgs false

/-! ### slices_Index_string_string: function 53 -/
def slices_Index_string_string.l0 : Nat → List ByteArray → ByteArray → Int → Int → Option (Int)
  | 0, _, _, _, _ => none
  | k + 1, x0, x1, x7, x8 => if x8 < x7 then (if 0 ≤ x8 then (if x8 < (x0.length : Int) then (if x1.toList = (rdOf ByteArray.empty x0 x8).toList then (some x8) else (slices_Index_string_string.l0 k x0 x1 x7 (wrap64 (x8 + 1)))) else (none)) else (none)) else (some (-1))
def slices_Index_string_string.f (k : Nat) (l0 : List ByteArray) (a1 : ByteArray) : Option (Int) := slices_Index_string_string.l0 k l0 a1 (l0.length : Int) 0
theorem slices_Index_string_string.mono_l : ∀ k, (∀ y0 y1 y2 y3, LeO (slices_Index_string_string.l0 k y0 y1 y2 y3) (slices_Index_string_string.l0 (k + 1) y0 y1 y2 y3))
  | 0 => fun _ _ _ _ r h => by simp [slices_Index_string_string.l0] at h
  | k + 1 => by
    have ih0 := slices_Index_string_string.mono_l k
    · intro y0 y1 y2 y3
      unfold slices_Index_string_string.l0
      repeat' first
      | (with_reducible exact ih0 _ _ _ _)
      | (with_reducible exact LeO.refl _)
      | (with_reducible exact LeO.none _)
      | (with_reducible refine LeO.ite ?_ ?_)
      | (with_reducible refine LeO.bind ?_ (fun _ => ?_))
theorem slices_Index_string_string.mono : ∀ a0 a1 k, LeO (slices_Index_string_string.f k a0 a1) (slices_Index_string_string.f (k + 1) a0 a1) := by
 intro a0 a1 k
 have ih0 := slices_Index_string_string.mono_l k
 unfold slices_Index_string_string.f
 repeat' first
     | (with_reducible exact ih0 _ _ _ _)
     | (with_reducible exact LeO.refl _)
     | (with_reducible exact LeO.none _)
     | (with_reducible refine LeO.ite ?_ ?_)
     | (with_reducible refine LeO.bind ?_ (fun _ => ?_))
set_option maxHeartbeats 8000000 in
set_option maxRecDepth 100000 in
theorem slices_Index_string_string.calls (k : Nat) (A0 : Option Addr) (c0 : Nat) (l0 : List ByteArray) (a1 : ByteArray) (r : Int) (w : World) (hr0 : Kd.C Kd.string w A0 l0.length l0) (hc0 : l0.length ≤ c0) (h : slices_Index_string_string.f k l0 a1 = some r) :
    Calls Tryd.prog 53 #[.slice A0 l0.length c0, .string a1] w fun e w' => e = .returned (.int .i64 r) ∧ Drawn0 w w' := by
 have HR0 := Aside0.mk hr0
 clear hr0 hc0
 have H : (slices_Index_string_string.l0 k l0 a1 (l0.length : Int) 0) = some r := h
 clear h
 have H' := Aside0.mk H
 clear H
 go_enter Tryd.func53, Tryd.ntmps53
 go_wp2
 go_loopg [8] k (fun kq v8 w' => ∃ (x8_1 : Int), v8 = .int .i64 x8_1 ∧ Aside0 (slices_Index_string_string.l0 kq l0 a1 (l0.length : Int) x8_1 = some r) ∧ Aside0 (kq ≤ k) ∧ Drawn0 w w')
 case atStart => exact ⟨(0), (by first | rfl | (simp; done) | (simp [*]; done)), H', ⟨Nat.le_refl _⟩, by repeat (first | exact Drawn0.refl _ | apply Drawn0.step)⟩
 clear H'
 obtain ⟨x8_1, rfl, HA, HK1, ⟨m1, rfl⟩⟩ := hrel
 cases gk with
 | zero => exact absurd HA.out (by simp [slices_Index_string_string.l0])
 | succ k1 =>
  have H := HA.out
  clear HA
  simp only [slices_Index_string_string.l0] at H
  by_cases c3 : x8_1 < (l0.length : Int)
  rotate_left
  · rw [if_neg c3] at H
    have c3b0 : decide (x8_1 < (l0.length : Int)) = false := decide_eq_false c3
    clear c3
    obtain rfl := Option.some.inj H
    go_wp2
    go_ret
    exact ⟨by first | rfl | (simp; done) | (simp [*]; done), by repeat (first | exact Drawn0.refl _ | apply Drawn0.step)⟩
  rw [if_pos c3] at H
  have c3b0 : decide (x8_1 < (l0.length : Int)) = true := decide_eq_true c3
  clear c3
  by_cases c4 : 0 ≤ x8_1
  rotate_left
  · rw [if_neg c4] at H
    exact absurd H (by simp)
  rw [if_pos c4] at H
  have c4b0 : decide (0 ≤ x8_1) = true := decide_eq_true c4
  clear c4
  by_cases c5 : x8_1 < (l0.length : Int)
  rotate_left
  · rw [if_neg c5] at H
    exact absurd H (by simp)
  rw [if_pos c5] at H
  have c5b0 : decide (x8_1 < (l0.length : Int)) = true := decide_eq_true c5
  clear c5
  by_cases c6 : a1.toList = (rdOf ByteArray.empty l0 x8_1).toList
  · rw [if_pos c6] at H
    have c6b0 : (a1.toList == (rdOf ByteArray.empty l0 x8_1).toList) = true := beq_iff_eq.mpr c6
    clear c6
    obtain rfl := Option.some.inj H
    have p161 : 0 ≤ (x8_1 : Int) := of_decide_eq_true (by first | (with_reducible assumption) | assumption)
    have q161 : x8_1 < (l0.length : Int) := of_decide_eq_true (by first | (with_reducible assumption) | assumption)
    obtain ⟨ad161, e161, hx161_0⟩ := Kd.at_string HR0.out x8_1 p161 q161
    cases e161
    replace p161 := eq_true p161
    replace q161 := eq_true q161
    go_wp2
    go_ret
    exact ⟨by first | rfl | (simp; done) | (simp [*]; done), by repeat (first | exact Drawn0.refl _ | apply Drawn0.step)⟩
  rw [if_neg c6] at H
  have c6b0 : (a1.toList == (rdOf ByteArray.empty l0 x8_1).toList) = false := beq_eq_false_iff_ne.mpr c6
  have H' := Aside0.mk H
  clear H
  have p161 : 0 ≤ (x8_1 : Int) := of_decide_eq_true (by first | (with_reducible assumption) | assumption)
  have q161 : x8_1 < (l0.length : Int) := of_decide_eq_true (by first | (with_reducible assumption) | assumption)
  obtain ⟨ad161, e161, hx161_0⟩ := Kd.at_string HR0.out x8_1 p161 q161
  cases e161
  replace p161 := eq_true p161
  replace q161 := eq_true q161
  go_wp2
  go_roundg k1
  case measure => have := HK1.out; omega
  case rel => exact ⟨(wrap64 (x8_1 + 1)), (by first | rfl | (simp; done) | (simp [*]; done)), H', ⟨by have := HK1.out; omega⟩, by repeat (first | exact Drawn0.refl _ | apply Drawn0.step)⟩

end Go.Proofs.YtlegjcagkmjfjaaDoor.PT
namespace Go.Proofs.YtlegjcagkmjfjaaDoor.PT
open Go.RowKit Go.Proofs.YtlegjcagkmjfjaaDoorW.PrintWords Go.Proofs.YtlegjcagkmjfjaaDoorW.PrintLast Go.Proofs.YtlegjcagkmjfjaaDoorW.PrintMore
attribute [local go_sem] max2_int min2_int max_two min_two max_three min_three max_four min_four   -- for this text's walks alone
set_option linter.unusedVariables false
set_option linter.unusedSimpArgs false

/-! ### slices_Contains_string_string: function 27 -/
def slices_Contains_string_string.f (k : Nat) (l0 : List ByteArray) (a1 : ByteArray) : Option (Bool) := (slices_Index_string_string.f k l0 a1).bind fun t162 => (some (decide (t162 ≥ 0)))
theorem slices_Contains_string_string.mono : ∀ a0 a1 k, LeO (slices_Contains_string_string.f k a0 a1) (slices_Contains_string_string.f (k + 1) a0 a1) := by
  intro a0 a1 k
  unfold slices_Contains_string_string.f
  repeat' first
      | (with_reducible exact slices_Index_string_string.mono _ _ _)
      | (with_reducible exact LeO.refl _)
      | (with_reducible exact LeO.none _)
      | (with_reducible refine LeO.ite ?_ ?_)
      | (with_reducible refine LeO.bind ?_ (fun _ => ?_))
      | exact slices_Index_string_string.mono _ _ _
      | exact LeO.none _
      | refine LeO.ite ?_ ?_
      | refine LeO.bind ?_ (fun _ => ?_)
set_option maxHeartbeats 8000000 in
set_option maxRecDepth 100000 in
theorem slices_Contains_string_string.calls (k : Nat) (A0 : Option Addr) (c0 : Nat) (l0 : List ByteArray) (a1 : ByteArray) (r : Bool) (w : World) (hr0 : Kd.C Kd.string w A0 l0.length l0) (hc0 : l0.length ≤ c0) (h : slices_Contains_string_string.f k l0 a1 = some r) :
    Calls Tryd.prog 27 #[.slice A0 l0.length c0, .string a1] w fun e w' => e = .returned (.bool r) ∧ Drawn0 w w' := by
  have HR0 := Aside0.mk hr0
  have HC0 := Aside0.mk hc0
  clear hr0 hc0
  have H : ((slices_Index_string_string.f k l0 a1).bind fun t162 => (some (decide (t162 ≥ 0)))) = some r := h
  clear h
  replace H := Option.bind_eq_some_iff.mp H
  obtain ⟨t162, A30, H⟩ := H
  replace H : (some (decide (t162 ≥ 0))) = some r := H
  have A3 := Aside0.mk A30
  clear A30
  obtain rfl := Option.some.inj H
  go_enter Tryd.func27, Tryd.ntmps27
  go_wp2_with (first | ((with_reducible refine gate_callee (f := 53) rfl ?_); refine goesL_ (some 7) rfl rfl Tryd.func53 (by kernel_rfl) rfl #[.slice A0 l0.length c0, .string a1] rfl (by (try simp only [List.map_toArray, List.map_cons, List.map_nil]); first | done | rfl | (simp only [List.length_drop, List.length_take]; rfl)) ?_; (with_reducible refine (slices_Index_string_string.calls k _ _ l0 a1 t162 _ ?side1 ?side2 A3.out).mono ?_); (case side1 => repeat (first | exact HR0.out | (with_reducible refine Kd.C_alloc ?_ _) | (with_reducible refine Kd.C_drewN ?_ _) | (with_reducible refine Kd.C_drew ?_))); (case side2 => exact HC0.out); rintro e w' ⟨rfl, ⟨nd, rfl⟩⟩; refine ⟨_, rfl, ?_⟩))
  go_ret
  exact ⟨by first | rfl | (simp; done) | (simp [*]; done), by repeat (first | exact Drawn0.refl _ | apply Drawn0.step)⟩

end Go.Proofs.YtlegjcagkmjfjaaDoor.PT
namespace Go.Proofs.YtlegjcagkmjfjaaDoor.PT
open Go.RowKit Go.Proofs.YtlegjcagkmjfjaaDoorW.PrintWords Go.Proofs.YtlegjcagkmjfjaaDoorW.PrintLast Go.Proofs.YtlegjcagkmjfjaaDoorW.PrintMore
attribute [local go_sem] max2_int min2_int max_two min_two max_three min_three max_four min_four   -- for this text's walks alone
set_option linter.unusedVariables false
set_option linter.unusedSimpArgs false

/-! ### clocks_CheckFor: function 14 -/
mutual
def clocks_CheckFor.l0 : Nat → List ByteArray → List (S58) → Int → Int → Int → List (S78) → List (S81) → List (S83) → List ByteArray → List ByteArray → List (S58) → List (S72) → List Int → Option (Int)
 | 0, _, _, _, _, _, _, _, _, _, _, _, _, _ => none
 | k + 1, x6, x23, x24, x25, x164000, x164001, x164002, x164003, x165000, x165001, x165002, x165003, x165004 => if x25 < x24 then (if 0 ≤ x25 then (if x25 < (x23.length : Int) then (if x6.length < 8796093022208 then (clocks_CheckFor.l0 k (x6 ++ [(rd_T58 x23 x25).f0]) x23 x24 (wrap64 (x25 + 1)) x164000 x164001 x164002 x164003 x165000 x165001 x165002 x165003 x165004) else (none)) else (none)) else (none)) else (clocks_CheckFor.l1 k x6 x164001 (x164001.length : Int) 0 x164000 x164001 x164002 x164003 x165000 x165001 x165002 x165003 x165004)
def clocks_CheckFor.l1 : Nat → List ByteArray → List (S78) → Int → Int → Int → List (S78) → List (S81) → List (S83) → List ByteArray → List ByteArray → List (S58) → List (S72) → List Int → Option (Int)
 | 0, _, _, _, _, _, _, _, _, _, _, _, _, _ => none
 | k + 1, x6, x36, x37, x38, x164000, x164001, x164002, x164003, x165000, x165001, x165002, x165003, x165004 => if x38 < x37 then (if 0 ≤ x38 then (if x38 < (x36.length : Int) then ((slices_Contains_string_string.f k x165000 ((rd_T78 x36 x38).f0)).bind fun t173 => (if t173 = true then (clocks_CheckFor.l1 k x6 x36 x37 (wrap64 (x38 + 1)) x164000 x164001 x164002 x164003 x165000 x165001 x165002 x165003 x165004) else (some 7))) else (none)) else (none)) else (clocks_CheckFor.l2 k x6 x164002 (x164002.length : Int) 0 x164000 x164001 x164002 x164003 x165000 x165001 x165002 x165003 x165004)
def clocks_CheckFor.l2 : Nat → List ByteArray → List (S81) → Int → Int → Int → List (S78) → List (S81) → List (S83) → List ByteArray → List ByteArray → List (S58) → List (S72) → List Int → Option (Int)
 | 0, _, _, _, _, _, _, _, _, _, _, _, _, _ => none
 | k + 1, x6, x50, x51, x52, x164000, x164001, x164002, x164003, x165000, x165001, x165002, x165003, x165004 => if x52 < x51 then (if 0 ≤ x52 then (if x52 < (x50.length : Int) then ((slices_Contains_string_string.f k x165001 ((rd_T81 x50 x52).f0)).bind fun t176 => (if t176 = true then (clocks_CheckFor.l2 k x6 x50 x51 (wrap64 (x52 + 1)) x164000 x164001 x164002 x164003 x165000 x165001 x165002 x165003 x165004) else (some 7))) else (none)) else (none)) else (clocks_CheckFor.l3 k x6 x164003 (x164003.length : Int) 0 x165000 x165001 x165002 x165003 x165004)
def clocks_CheckFor.l3 : Nat → List ByteArray → List (S83) → Int → Int → List ByteArray → List ByteArray → List (S58) → List (S72) → List Int → Option (Int)
 | 0, _, _, _, _, _, _, _, _, _ => none
 | k + 1, x6, x64, x65, x66, x165000, x165001, x165002, x165003, x165004 => if x66 < x65 then (if 0 ≤ x66 then (if x66 < (x64.length : Int) then (if ((rd_T83 x64 x66).f0).toList = ([] : List UInt8) then (clocks_CheckFor.j4 k x6 true x64 x65 x66 x165000 x165001 x165002 x165003 x165004 ((rd_T83 x64 x66).f0) ((rd_T83 x64 x66).f1) ((rd_T83 x64 x66).f2)) else ((slices_Contains_string_string.f k x165000 ((rd_T83 x64 x66).f0)).bind fun t179 => (if t179 = true then (clocks_CheckFor.j4 k x6 true x64 x65 x66 x165000 x165001 x165002 x165003 x165004 ((rd_T83 x64 x66).f0) ((rd_T83 x64 x66).f1) ((rd_T83 x64 x66).f2)) else ((slices_Contains_string_string.f k x6 ((rd_T83 x64 x66).f0)).bind fun t180 => (clocks_CheckFor.j4 k x6 t180 x64 x65 x66 x165000 x165001 x165002 x165003 x165004 ((rd_T83 x64 x66).f0) ((rd_T83 x64 x66).f1) ((rd_T83 x64 x66).f2)))))) else (none)) else (none)) else (some 0)
def clocks_CheckFor.j4 : Nat → List ByteArray → Bool → List (S83) → Int → Int → List ByteArray → List ByteArray → List (S58) → List (S72) → List Int → ByteArray → ByteArray → Int → Option (Int)
 | 0, _, _, _, _, _, _, _, _, _, _, _, _, _ => none
 | k + 1, x6, x15, x64, x65, x66, x165000, x165001, x165002, x165003, x165004, x179000, x179001, x179002 => if x179001.toList = ([] : List UInt8) then (if x15 = true then (clocks_CheckFor.l3 k x6 x64 x65 (wrap64 (x66 + 1)) x165000 x165001 x165002 x165003 x165004) else (some 7)) else ((slices_Contains_string_string.f k x165001 x179001).bind fun t181 => (if t181 = true then (if x15 = true then (clocks_CheckFor.l3 k x6 x64 x65 (wrap64 (x66 + 1)) x165000 x165001 x165002 x165003 x165004) else (some 7)) else ((slices_Contains_string_string.f k x6 x179001).bind fun t182 => (if x15 = true then (if t182 = true then (clocks_CheckFor.l3 k x6 x64 x65 (wrap64 (x66 + 1)) x165000 x165001 x165002 x165003 x165004) else (some 7)) else (some 7)))))
end
def clocks_CheckFor.f (k : Nat) (a0_0 : Int) (l0_1 : List (S78)) (l0_2 : List (S81)) (l0_3 : List (S83)) (l1_0 : List ByteArray) (l1_1 : List ByteArray) (l1_2 : List (S58)) (l1_3 : List (S72)) (l1_4 : List Int) : Option (Int) := (clocks_Check.f a0_0 l0_1 l0_2 l0_3).bind fun t165 => (if t165 = 0 then (clocks_CheckFor.l0 k ([] : List ByteArray) l1_2 (l1_2.length : Int) 0 a0_0 l0_1 l0_2 l0_3 l1_0 l1_1 l1_2 l1_3 l1_4) else (some t165))
theorem clocks_CheckFor.mono_l : ∀ k, (∀ y0 y1 y2 y3 y4 y5 y6 y7 y8 y9 y10 y11 y12, LeO (clocks_CheckFor.l0 k y0 y1 y2 y3 y4 y5 y6 y7 y8 y9 y10 y11 y12) (clocks_CheckFor.l0 (k + 1) y0 y1 y2 y3 y4 y5 y6 y7 y8 y9 y10 y11 y12)) ∧ (∀ y0 y1 y2 y3 y4 y5 y6 y7 y8 y9 y10 y11 y12, LeO (clocks_CheckFor.l1 k y0 y1 y2 y3 y4 y5 y6 y7 y8 y9 y10 y11 y12) (clocks_CheckFor.l1 (k + 1) y0 y1 y2 y3 y4 y5 y6 y7 y8 y9 y10 y11 y12)) ∧ (∀ y0 y1 y2 y3 y4 y5 y6 y7 y8 y9 y10 y11 y12, LeO (clocks_CheckFor.l2 k y0 y1 y2 y3 y4 y5 y6 y7 y8 y9 y10 y11 y12) (clocks_CheckFor.l2 (k + 1) y0 y1 y2 y3 y4 y5 y6 y7 y8 y9 y10 y11 y12)) ∧ (∀ y0 y1 y2 y3 y4 y5 y6 y7 y8, LeO (clocks_CheckFor.l3 k y0 y1 y2 y3 y4 y5 y6 y7 y8) (clocks_CheckFor.l3 (k + 1) y0 y1 y2 y3 y4 y5 y6 y7 y8)) ∧ (∀ y0 y1 y2 y3 y4 y5 y6 y7 y8 y9 y10 y11 y12, LeO (clocks_CheckFor.j4 k y0 y1 y2 y3 y4 y5 y6 y7 y8 y9 y10 y11 y12) (clocks_CheckFor.j4 (k + 1) y0 y1 y2 y3 y4 y5 y6 y7 y8 y9 y10 y11 y12))
 | 0 => ⟨fun _ _ _ _ _ _ _ _ _ _ _ _ _ r h => by simp [clocks_CheckFor.l0] at h, fun _ _ _ _ _ _ _ _ _ _ _ _ _ r h => by simp [clocks_CheckFor.l1] at h, fun _ _ _ _ _ _ _ _ _ _ _ _ _ r h => by simp [clocks_CheckFor.l2] at h, fun _ _ _ _ _ _ _ _ _ r h => by simp [clocks_CheckFor.l3] at h, fun _ _ _ _ _ _ _ _ _ _ _ _ _ r h => by simp [clocks_CheckFor.j4] at h⟩
 | k + 1 => by
  obtain ⟨ih0, ih1, ih2, ih3, ih4⟩ := clocks_CheckFor.mono_l k
  refine ⟨?_, ?_, ?_, ?_, ?_⟩
  · intro y0 y1 y2 y3 y4 y5 y6 y7 y8 y9 y10 y11 y12
    unfold clocks_CheckFor.l0
    repeat' first
    | (with_reducible exact ih0 _ _ _ _ _ _ _ _ _ _ _ _ _)
    | (with_reducible exact ih1 _ _ _ _ _ _ _ _ _ _ _ _ _)
    | (with_reducible exact LeO.refl _)
    | (with_reducible exact LeO.none _)
    | (with_reducible refine LeO.ite ?_ ?_)
    | (with_reducible refine LeO.bind ?_ (fun _ => ?_))
  · intro y0 y1 y2 y3 y4 y5 y6 y7 y8 y9 y10 y11 y12
    unfold clocks_CheckFor.l1
    repeat' first
    | (with_reducible exact ih1 _ _ _ _ _ _ _ _ _ _ _ _ _)
    | (with_reducible exact ih2 _ _ _ _ _ _ _ _ _ _ _ _ _)
    | (with_reducible exact slices_Contains_string_string.mono _ _ _)
    | (with_reducible exact LeO.refl _)
    | (with_reducible exact LeO.none _)
    | (with_reducible refine LeO.ite ?_ ?_)
    | (with_reducible refine LeO.bind ?_ (fun _ => ?_))
  · intro y0 y1 y2 y3 y4 y5 y6 y7 y8 y9 y10 y11 y12
    unfold clocks_CheckFor.l2
    repeat' first
    | (with_reducible exact ih2 _ _ _ _ _ _ _ _ _ _ _ _ _)
    | (with_reducible exact ih3 _ _ _ _ _ _ _ _ _)
    | (with_reducible exact slices_Contains_string_string.mono _ _ _)
    | (with_reducible exact LeO.refl _)
    | (with_reducible exact LeO.none _)
    | (with_reducible refine LeO.ite ?_ ?_)
    | (with_reducible refine LeO.bind ?_ (fun _ => ?_))
  · intro y0 y1 y2 y3 y4 y5 y6 y7 y8
    unfold clocks_CheckFor.l3
    repeat' first
    | (with_reducible exact ih4 _ _ _ _ _ _ _ _ _ _ _ _ _)
    | (with_reducible exact slices_Contains_string_string.mono _ _ _)
    | (with_reducible exact LeO.refl _)
    | (with_reducible exact LeO.none _)
    | (with_reducible refine LeO.ite ?_ ?_)
    | (with_reducible refine LeO.bind ?_ (fun _ => ?_))
  · intro y0 y1 y2 y3 y4 y5 y6 y7 y8 y9 y10 y11 y12
    unfold clocks_CheckFor.j4
    repeat' first
    | (with_reducible exact ih3 _ _ _ _ _ _ _ _ _)
    | (with_reducible exact slices_Contains_string_string.mono _ _ _)
    | (with_reducible exact LeO.refl _)
    | (with_reducible exact LeO.none _)
    | (with_reducible refine LeO.ite ?_ ?_)
    | (with_reducible refine LeO.bind ?_ (fun _ => ?_))
theorem clocks_CheckFor.mono : ∀ a0 a1 a2 a3 a4 a5 a6 a7 a8 k, LeO (clocks_CheckFor.f k a0 a1 a2 a3 a4 a5 a6 a7 a8) (clocks_CheckFor.f (k + 1) a0 a1 a2 a3 a4 a5 a6 a7 a8) := by
 intro a0 a1 a2 a3 a4 a5 a6 a7 a8 k
 obtain ⟨ih0, ih1, ih2, ih3, ih4⟩ := clocks_CheckFor.mono_l k
 unfold clocks_CheckFor.f
 repeat' first
  | (with_reducible exact ih0 _ _ _ _ _ _ _ _ _ _ _ _ _)
  | (with_reducible exact LeO.refl _)
  | (with_reducible exact LeO.none _)
  | (with_reducible refine LeO.ite ?_ ?_)
  | (with_reducible refine LeO.bind ?_ (fun _ => ?_))
set_option maxHeartbeats 8000000 in
set_option maxRecDepth 100000 in
theorem clocks_CheckFor.calls (k : Nat) (a0_0 : Int) (A0_1 : Option Addr) (c0_1 : Nat) (l0_1 : List (S78)) (A0_2 : Option Addr) (c0_2 : Nat) (l0_2 : List (S81)) (A0_3 : Option Addr) (c0_3 : Nat) (l0_3 : List (S83)) (A1_0 : Option Addr) (c1_0 : Nat) (l1_0 : List ByteArray) (A1_1 : Option Addr) (c1_1 : Nat) (l1_1 : List ByteArray) (A1_2 : Option Addr) (c1_2 : Nat) (l1_2 : List (S58)) (A1_3 : Option Addr) (c1_3 : Nat) (l1_3 : List (S72)) (A1_4 : Option Addr) (c1_4 : Nat) (l1_4 : List Int) (r : Int) (w : World) (hr0_1 : Kd.C k78 w A0_1 l0_1.length l0_1) (hc0_1 : l0_1.length ≤ c0_1) (hr0_2 : Kd.C k81 w A0_2 l0_2.length l0_2) (hc0_2 : l0_2.length ≤ c0_2) (hr0_3 : Kd.C k83 w A0_3 l0_3.length l0_3) (hc0_3 : l0_3.length ≤ c0_3) (hr1_0 : Kd.C Kd.string w A1_0 l1_0.length l1_0) (hc1_0 : l1_0.length ≤ c1_0) (hr1_1 : Kd.C Kd.string w A1_1 l1_1.length l1_1) (hc1_1 : l1_1.length ≤ c1_1) (hr1_2 : Kd.C k58 w A1_2 l1_2.length l1_2) (hc1_2 : l1_2.length ≤ c1_2) (hr1_3 : Kd.C k72 w A1_3 l1_3.length l1_3) (hc1_3 : l1_3.length ≤ c1_3) (hr1_4 : Kd.C (Kd.int .i64) w A1_4 l1_4.length l1_4) (hc1_4 : l1_4.length ≤ c1_4) (h : clocks_CheckFor.f k a0_0 l0_1 l0_2 l0_3 l1_0 l1_1 l1_2 l1_3 l1_4 = some r) (hT : TabS w a0_0 l0_1 l0_2 l0_3) :
 Calls Tryd.prog 14 #[.agg #[.int .i64 a0_0, .slice A0_1 l0_1.length c0_1, .slice A0_2 l0_2.length c0_2, .slice A0_3 l0_3.length c0_3], .agg #[.slice A1_0 l1_0.length c1_0, .slice A1_1 l1_1.length c1_1, .slice A1_2 l1_2.length c1_2, .slice A1_3 l1_3.length c1_3, .slice A1_4 l1_4.length c1_4]] w fun e w' => e = .returned (.int .i64 r) ∧ Below w.heap.size w w' := by
 have HTA := Aside0.mk (TabS_on hT)
 clear hT
 have HR0_1 := Aside0.mk hr0_1
 have HC0_1 := Aside0.mk hc0_1
 clear hr0_1 hc0_1
 have HR0_2 := Aside0.mk hr0_2
 have HC0_2 := Aside0.mk hc0_2
 clear hr0_2 hc0_2
 have HR0_3 := Aside0.mk hr0_3
 have HC0_3 := Aside0.mk hc0_3
 clear hr0_3 hc0_3
 have HR1_0 := Aside0.mk hr1_0
 have HC1_0 := Aside0.mk hc1_0
 clear hr1_0 hc1_0
 have HR1_1 := Aside0.mk hr1_1
 have HC1_1 := Aside0.mk hc1_1
 clear hr1_1 hc1_1
 have HR1_2 := Aside0.mk hr1_2
 clear hr1_2 hc1_2
 clear hr1_3 hc1_3
 clear hr1_4 hc1_4
 have HB := Aside0.mk (Below.refl w.heap.size w)
 have H : ((clocks_Check.f a0_0 l0_1 l0_2 l0_3).bind fun t165 => (if t165 = 0 then (clocks_CheckFor.l0 k ([] : List ByteArray) l1_2 (l1_2.length : Int) 0 a0_0 l0_1 l0_2 l0_3 l1_0 l1_1 l1_2 l1_3 l1_4) else (some t165))) = some r := h
 clear h
 replace H := Option.bind_eq_some_iff.mp H
 obtain ⟨t165, A30, H⟩ := H
 replace H : (if t165 = 0 then (clocks_CheckFor.l0 k ([] : List ByteArray) l1_2 (l1_2.length : Int) 0 a0_0 l0_1 l0_2 l0_3 l1_0 l1_1 l1_2 l1_3 l1_4) else (some t165)) = some r := H
 have A3 := Aside0.mk A30
 clear A30
 by_cases c4 : t165 = 0
 rotate_left
 · rw [if_neg c4] at H
   have c4b1 : (t165 != 0) = true := bne_iff_ne.mpr c4
   obtain rfl := Option.some.inj H
   go_enter Tryd.func14, Tryd.ntmps14
   go_wp2_with (first | ((with_reducible refine gate_dst (N := 2) rfl ?_); refine box_event ?hg (N := 2) ?hd (cs := #[.int .i64 a0_0, .slice A0_1 l0_1.length c0_1, .slice A0_2 l0_2.length c0_2, .slice A0_3 l0_3.length c0_3]) (t := 37) ?hr ?_; (case hd => rfl); (case hg => rfl); (case hr => first | (go_simp; done) | (go_simp; rfl)); intro gb163 hg w128 hbox hb; have BK163 := Aside0.mk (hbox); replace HB := Aside0.mk (below_step bl hb); clear hb hbox hg) | ((with_reducible refine gate_dst (N := 3) rfl ?_); refine box_event ?hg (N := 3) ?hd (cs := #[.slice A1_0 l1_0.length c1_0, .slice A1_1 l1_1.length c1_1, .slice A1_2 l1_2.length c1_2, .slice A1_3 l1_3.length c1_3, .slice A1_4 l1_4.length c1_4]) (t := 27) ?hr ?_; (case hd => rfl); (case hg => rfl); (case hr => first | (go_simp; done) | (go_simp; rfl)); intro gb164 hg w129 hbox hb; have BK164 := Aside0.mk (hbox); replace HB := Aside0.mk (below_step bl hb); have NB163_164 := Aside0.mk (nl hg (bk BK163.out)); have NB164_163 := Aside0.mk (ng hg (bk BK163.out)); replace BK163 := Aside0.mk (bb BK163.out hb); clear hb hbox hg; obtain ⟨hcz131_0, hcz131_1, hcz131_2, hcz131_3, hfz131_0, hfz131_1, hfz131_2, hfz131_3⟩ := bz4 BK163.out) | ((with_reducible refine gate_callee (f := 26) rfl ?_); refine goesL_ (some 18) rfl rfl Tryd.func26 (by kernel_rfl) rfl #[.agg #[.int .i64 a0_0, .slice A0_1 l0_1.length c0_1, .slice A0_2 l0_2.length c0_2, .slice A0_3 l0_3.length c0_3]] rfl (by (try simp only [List.map_toArray, List.map_cons, List.map_nil]); first | done | rfl | (simp only [List.length_drop, List.length_take]; rfl)) ?_; (with_reducible refine (clocks_Check.calls a0_0 _ _ l0_1 _ _ l0_2 _ _ l0_3 t165 _ ?side1 ?side2 ?side3 ?side4 ?side5 ?side6 A3.out ?sideT).mono ?_); (case sideT => exact HTA.out _ (by repeat (first | exact HB.out | (with_reducible refine below_alloc ?_ _) | (with_reducible refine pw_below_drewN ?_ _) | (with_reducible refine below_drew1 ?_)))); (case side1 => exact kc (Kd.C_below HR0_1.out HB.out)); (case side2 => exact HC0_1.out); (case side3 => exact kc (Kd.C_below HR0_2.out HB.out)); (case side4 => exact HC0_2.out); (case side5 => exact kc (Kd.C_below HR0_3.out HB.out)); (case side6 => exact HC0_3.out); rintro e w132 ⟨rfl, hb⟩; refine ⟨_, rfl, ?_⟩; replace BK163 := Aside0.mk (bb BK163.out hb); replace BK164 := Aside0.mk (bb BK164.out hb); replace HB := Aside0.mk (below_step bl hb); (try clear hb)))
   go_ret
   exact ⟨by first | rfl | (simp [errW_none, errW_some] <;> rfl) | (simp [*, errW_none, errW_some] <;> rfl), bl⟩
 rw [if_pos c4] at H
 have c4b0 : (t165 == 0) = true := beq_iff_eq.mpr c4
 have c4b1 : (t165 != 0) = false := bne_eq_false_iff_eq.mpr c4
 clear c4
 have H' := Aside0.mk H
 clear H
 go_enter Tryd.func14, Tryd.ntmps14
 go_wp2_with (first | ((with_reducible refine gate_dst (N := 2) rfl ?_); refine box_event ?hg (N := 2) ?hd (cs := #[.int .i64 a0_0, .slice A0_1 l0_1.length c0_1, .slice A0_2 l0_2.length c0_2, .slice A0_3 l0_3.length c0_3]) (t := 37) ?hr ?_; (case hd => rfl); (case hg => rfl); (case hr => first | (go_simp; done) | (go_simp; rfl)); intro gb163 hg w5 hbox hb; have BK163 := Aside0.mk (hbox); replace HB := Aside0.mk (below_step bl hb); clear hb hbox hg) | ((with_reducible refine gate_dst (N := 3) rfl ?_); refine box_event ?hg (N := 3) ?hd (cs := #[.slice A1_0 l1_0.length c1_0, .slice A1_1 l1_1.length c1_1, .slice A1_2 l1_2.length c1_2, .slice A1_3 l1_3.length c1_3, .slice A1_4 l1_4.length c1_4]) (t := 27) ?hr ?_; (case hd => rfl); (case hg => rfl); (case hr => first | (go_simp; done) | (go_simp; rfl)); intro gb164 hg w6 hbox hb; have BK164 := Aside0.mk (hbox); replace HB := Aside0.mk (below_step bl hb); have NB163_164 := Aside0.mk (nl hg (bk BK163.out)); have NB164_163 := Aside0.mk (ng hg (bk BK163.out)); replace BK163 := Aside0.mk (bb BK163.out hb); clear hb hbox hg; obtain ⟨hcz8_0, hcz8_1, hcz8_2, hcz8_3, hfz8_0, hfz8_1, hfz8_2, hfz8_3⟩ := bz4 BK163.out) | ((with_reducible refine gate_callee (f := 26) rfl ?_); refine goesL_ (some 18) rfl rfl Tryd.func26 (by kernel_rfl) rfl #[.agg #[.int .i64 a0_0, .slice A0_1 l0_1.length c0_1, .slice A0_2 l0_2.length c0_2, .slice A0_3 l0_3.length c0_3]] rfl (by (try simp only [List.map_toArray, List.map_cons, List.map_nil]); first | done | rfl | (simp only [List.length_drop, List.length_take]; rfl)) ?_; (with_reducible refine (clocks_Check.calls a0_0 _ _ l0_1 _ _ l0_2 _ _ l0_3 t165 _ ?side1 ?side2 ?side3 ?side4 ?side5 ?side6 A3.out ?sideT).mono ?_); (case sideT => exact HTA.out _ (by repeat (first | exact HB.out | (with_reducible refine below_alloc ?_ _) | (with_reducible refine pw_below_drewN ?_ _) | (with_reducible refine below_drew1 ?_)))); (case side1 => exact kc (Kd.C_below HR0_1.out HB.out)); (case side2 => exact HC0_1.out); (case side3 => exact kc (Kd.C_below HR0_2.out HB.out)); (case side4 => exact HC0_2.out); (case side5 => exact kc (Kd.C_below HR0_3.out HB.out)); (case side6 => exact HC0_3.out); rintro e w9 ⟨rfl, hb⟩; refine ⟨_, rfl, ?_⟩; replace BK163 := Aside0.mk (bb BK163.out hb); replace BK164 := Aside0.mk (bb BK164.out hb); replace HB := Aside0.mk (below_step bl hb); (try clear hb); obtain ⟨hcz10_0, hcz10_1, hcz10_2, hcz10_3, hcz10_4, hfz10_0, hfz10_1, hfz10_2, hfz10_3, hfz10_4⟩ := bz5 BK164.out))
 go_loopg [6, 25] k (fun kq v6 v25 w' => ∃ (x6_1 : List ByteArray) (x25_1 : Int), v25 = .int .i64 x25_1 ∧ Aside0 (clocks_CheckFor.l0 kq x6_1 l1_2 (l1_2.length : Int) x25_1 a0_0 l0_1 l0_2 l0_3 l1_0 l1_1 l1_2 l1_3 l1_4 = some r) ∧ Aside0 (kq ≤ k) ∧ Aside0 (Kd.R Kd.string 9 w' w.heap.size (fun _ => True) v6 x6_1) ∧ Aside0 (w'.heap[gb163]? = some (.cells #[.int .i64 a0_0, (.slice A0_1 l0_1.length c0_1), (.slice A0_2 l0_2.length c0_2), (.slice A0_3 l0_3.length c0_3)] 37 (0, 0))) ∧ Aside0 (w'.heap[gb164]? = some (.cells #[(.slice A1_0 l1_0.length c1_0), (.slice A1_1 l1_1.length c1_1), (.slice A1_2 l1_2.length c1_2), (.slice A1_3 l1_3.length c1_3), (.slice A1_4 l1_4.length c1_4)] 27 (0, 0))) ∧ Aside0 (Below w.heap.size w w'))
 case atStart => exact ⟨(([] : List ByteArray)), (0), (by first | rfl | (simp; done) | (simp [*]; done)), H', ⟨Nat.le_refl _⟩, ⟨by first | exact Kd.R_nil _ _ _ _ _ | exact Kd.N_nil _ _ _ _ _ | exact Kd.V_nil _ _ _ _ _ | exact Kd.Q_nil _ _ _ _ _ | exact Kd.S_nil _ _ _ _ _⟩, ⟨bk BK163.out⟩, ⟨bk BK164.out⟩, ⟨bl⟩⟩
 clear H'
 clear c4b0 c4b1 hcz10_0 hcz10_1 hcz10_2 hcz10_3 hcz10_4 hcz8_0 hcz8_1 hcz8_2 hcz8_3 hfz10_0 hfz10_1 hfz10_2 hfz10_3 hfz10_4 hfz8_0 hfz8_1 hfz8_2 hfz8_3
 obtain ⟨x6_1, x25_1, rfl, HA, HK1, HO_6, BK163, BK164, HB⟩ := hrel
 cases gk with
 | zero => exact absurd HA.out (by simp [clocks_CheckFor.l0])
 | succ k1 =>
  have H := HA.out
  clear HA
  simp only [clocks_CheckFor.l0] at H
  by_cases c11 : x25_1 < (l1_2.length : Int)
  · rw [if_pos c11] at H
    have c11b0 : decide (x25_1 < (l1_2.length : Int)) = true := decide_eq_true c11
    clear c11
    by_cases c12 : 0 ≤ x25_1
    rotate_left
    · rw [if_neg c12] at H
      exact absurd H (by simp)
    rw [if_pos c12] at H
    have c12b0 : decide (0 ≤ x25_1) = true := decide_eq_true c12
    clear c12
    by_cases c13 : x25_1 < (l1_2.length : Int)
    rotate_left
    · rw [if_neg c13] at H
      exact absurd H (by simp)
    rw [if_pos c13] at H
    have c13b0 : decide (x25_1 < (l1_2.length : Int)) = true := decide_eq_true c13
    clear c13
    by_cases c14 : x6_1.length < 8796093022208
    rotate_left
    · rw [if_neg c14] at H
      exact absurd H (by simp)
    rw [if_pos c14] at H
    have LMc14 := Aside0.mk c14
    clear c14
    obtain ⟨y168, hy168⟩ : ∃ y_ : List ByteArray, y_ = (x6_1 ++ [(rd_T58 l1_2 x25_1).f0]) := ⟨_, rfl⟩
    replace H : (clocks_CheckFor.l0 k1 y168 l1_2 (l1_2.length : Int) (wrap64 (x25_1 + 1)) a0_0 l0_1 l0_2 l0_3 l1_0 l1_1 l1_2 l1_3 l1_4) = some r := by first | (rw [hy168]; with_reducible exact H) | (have H2_ := (Option.bind_some _ _).symm.trans H; rw [hy168]; with_reducible exact H2_) | (have H2_ := (Option.bind_some _ _).symm.trans H; with_reducible exact H2_) | with_reducible exact H | (rw [hy168]; exact H) | exact H
    have Ny168 := Aside0.mk hy168
    clear hy168
    have H' := Aside0.mk H
    clear H
    have p166 : 0 ≤ (x25_1 : Int) := of_decide_eq_true (by first | (with_reducible assumption) | assumption)
    have q166 : x25_1 < (l1_2.length : Int) := of_decide_eq_true (by first | (with_reducible assumption) | assumption)
    obtain ⟨ad166, e166, hx166_0, hx166_1, hx166_2, hx166_3, hx166_4⟩ := at_T58 HR1_2.out x25_1 p166 q166
    cases e166
    replace hx166_0 := hc HB.out hx166_0
    replace hx166_1 := hc HB.out hx166_1
    replace hx166_2 := hc HB.out hx166_2
    replace hx166_3 := hc HB.out hx166_3
    replace hx166_4 := hc HB.out hx166_4
    replace p166 := eq_true p166
    replace q166 := eq_true q166
    go_wp2_with (first | ((with_reducible refine gate_dst (N := 8) rfl ?_); refine box_event ?hg (N := 8) ?hd (cs := #[.string (⟨#[]⟩ : ByteArray), .int .i64 0, .int .i64 0, .int .i64 0, .bool false]) (t := 58) ?hr ?_; (case hd => rfl); (case hg => rfl); (case hr => first | (go_simp; done) | (go_simp; rfl)); intro gb167 hg w15 hbox hb; replace HO_6 := Aside0.mk (rb HO_6.out hb); have BK167 := Aside0.mk (hbox); have GE167 := Aside0.mk (ge (w := w) hg); replace HB := Aside0.mk (below_step bl hb); have NB163_167 := Aside0.mk (nl hg (bk BK163.out)); have NB167_163 := Aside0.mk (ng hg (bk BK163.out)); replace BK163 := Aside0.mk (bb BK163.out hb); have NB164_167 := Aside0.mk (nl hg (bk BK164.out)); have NB167_164 := Aside0.mk (ng hg (bk BK164.out)); replace BK164 := Aside0.mk (bb BK164.out hb); clear hb hbox hg; obtain ⟨hcz18_0, hcz18_1, hcz18_2, hcz18_3, hcz18_4, hfz18_0, hfz18_1, hfz18_2, hfz18_3, hfz18_4⟩ := bz5 BK167.out) | ((with_reducible refine gate_builtin (b := .append) (xs := #[.tmp 29, .tmp 32]) rfl ?_); at_builtin; refine Kd.R_append Kd.string (w0 := w) w.heap.size rfl (.tmp 29) (.tmp 32) 22 9 (.string ⟨#[]⟩) 16 rfl Tryd.underlying22 info9 rfl (by decide) (by omega) u6 x6_1 ((rd_T58 l1_2 x25_1).f0) [.string ((rd_T58 l1_2 x25_1).f0)] (fun _ => True) (fun _ => False) rfl (by first | (go_simp; done) | (go_simp; rfl)) ?aP (fun _ hk => hk.elim) ?aF ?aO ?aB ?aS ?aL ?_; (case aP => exact rfl); (case aB => exact bl); (case aF => exact (fun _ _ => trivial)); (case aO => exact (by (with_reducible repeat (first | apply Kd.R_alloc | apply Kd.R_drewN | apply Kd.R_drew)); exact Kd.R_mono (Kd.R_far (p := ⟨gb167, 4, none⟩) (Kd.R_far (p := ⟨gb167, 3, none⟩) (Kd.R_far (p := ⟨gb167, 2, none⟩) (Kd.R_far (p := ⟨gb167, 1, none⟩) (Kd.R_far (p := ⟨gb167, 0, none⟩) (Kd.R_types HO_6.out BK167.out (by decide)) (fun _ hk => hk.2) (.string ((rd_T58 l1_2 x25_1).f0))) (fun _ hk => hk.2) (.int .i64 ((rd_T58 l1_2 x25_1).f1))) (fun _ hk => hk.2) (.int .i64 ((rd_T58 l1_2 x25_1).f2))) (fun _ hk => hk.2) (.int .i64 ((rd_T58 l1_2 x25_1).f3))) (fun _ hk => hk.2) (.bool ((rd_T58 l1_2 x25_1).f4))) (fun _ hk => trivial))); (case aS => exact (below_size bl)); (case aL => have := LMc14.out; omega); intro v169 w19 ho hb hg hat; rw [← Ny168.out] at ho; replace BK163 := Aside0.mk (blk_grown (bf BK163.out) hg (Kd.R_ne HO_6.out BK163.out (by decide))); replace BK164 := Aside0.mk (blk_grown (bf BK164.out) hg (Kd.R_ne HO_6.out BK164.out (by decide))); replace BK167 := Aside0.mk (blk_grown (g := gb167) (o := .cells #[.string ((rd_T58 l1_2 x25_1).f0), .int .i64 ((rd_T58 l1_2 x25_1).f1), .int .i64 ((rd_T58 l1_2 x25_1).f2), .int .i64 ((rd_T58 l1_2 x25_1).f3), .bool ((rd_T58 l1_2 x25_1).f4)] 58 (0, 0)) (by (with_reducible repeat (first | refine blk_drewN ?_ _ | refine blk_drew ?_ | refine blk_alloc ?_ _)); refine blk_put (cs := #[.string ((rd_T58 l1_2 x25_1).f0), .int .i64 ((rd_T58 l1_2 x25_1).f1), .int .i64 ((rd_T58 l1_2 x25_1).f2), .int .i64 ((rd_T58 l1_2 x25_1).f3), .bool false]) ?_ 4 _ rfl; (with_reducible repeat (first | refine blk_drewN ?_ _ | refine blk_drew ?_ | refine blk_alloc ?_ _)); refine blk_put (cs := #[.string ((rd_T58 l1_2 x25_1).f0), .int .i64 ((rd_T58 l1_2 x25_1).f1), .int .i64 ((rd_T58 l1_2 x25_1).f2), .int .i64 0, .bool false]) ?_ 3 _ rfl; (with_reducible repeat (first | refine blk_drewN ?_ _ | refine blk_drew ?_ | refine blk_alloc ?_ _)); refine blk_put (cs := #[.string ((rd_T58 l1_2 x25_1).f0), .int .i64 ((rd_T58 l1_2 x25_1).f1), .int .i64 0, .int .i64 0, .bool false]) ?_ 2 _ rfl; (with_reducible repeat (first | refine blk_drewN ?_ _ | refine blk_drew ?_ | refine blk_alloc ?_ _)); refine blk_put (cs := #[.string ((rd_T58 l1_2 x25_1).f0), .int .i64 0, .int .i64 0, .int .i64 0, .bool false]) ?_ 1 _ rfl; (with_reducible repeat (first | refine blk_drewN ?_ _ | refine blk_drew ?_ | refine blk_alloc ?_ _)); refine blk_put (cs := #[.string (⟨#[]⟩ : ByteArray), .int .i64 0, .int .i64 0, .int .i64 0, .bool false]) ?_ 0 _ rfl; (with_reducible repeat (first | refine blk_drewN ?_ _ | refine blk_drew ?_ | refine blk_alloc ?_ _)); exact BK167.out) hg (Kd.R_ne HO_6.out BK167.out (by decide))); replace HB := Aside0.mk (hb); have HO170 := Aside0.mk (ho); clear HO_6; clear ho hb hg hat))
    go_roundg k1
    case measure => have := HK1.out; omega
    case rel => exact ⟨(y168), (wrap64 (x25_1 + 1)), (by first | rfl | (simp; done) | (simp [*]; done)), H', ⟨by have := HK1.out; omega⟩, ⟨by (with_reducible repeat (first | apply Kd.R_alloc | apply Kd.R_drewN | apply Kd.R_drew)); exact HO170.out⟩, ⟨bk BK163.out⟩, ⟨bk BK164.out⟩, ⟨bl⟩⟩
  rw [if_neg c11] at H
  have c11b0 : decide (x25_1 < (l1_2.length : Int)) = false := decide_eq_false c11
  clear c11
  have H' := Aside0.mk H
  clear H
  obtain ⟨hcz21_0, hcz21_1, hcz21_2, hcz21_3, hfz21_0, hfz21_1, hfz21_2, hfz21_3⟩ := bz4 BK163.out
  go_wp2
  go_loopg [38] k1 (fun kq v38 w' => ∃ (x38_2 : Int), v38 = .int .i64 x38_2 ∧ Aside0 (clocks_CheckFor.l1 kq x6_1 l0_1 (l0_1.length : Int) x38_2 a0_0 l0_1 l0_2 l0_3 l1_0 l1_1 l1_2 l1_3 l1_4 = some r) ∧ Aside0 (kq ≤ k1) ∧ Aside0 (Kd.R Kd.string 9 w' w.heap.size (fun _ => True) u6 x6_1) ∧ Aside0 (w'.heap[gb163]? = some (.cells #[.int .i64 a0_0, (.slice A0_1 l0_1.length c0_1), (.slice A0_2 l0_2.length c0_2), (.slice A0_3 l0_3.length c0_3)] 37 (0, 0))) ∧ Aside0 (w'.heap[gb164]? = some (.cells #[(.slice A1_0 l1_0.length c1_0), (.slice A1_1 l1_1.length c1_1), (.slice A1_2 l1_2.length c1_2), (.slice A1_3 l1_3.length c1_3), (.slice A1_4 l1_4.length c1_4)] 27 (0, 0))) ∧ Aside0 (Below w.heap.size w w'))
  case atStart => exact ⟨(0), (by first | rfl | (simp; done) | (simp [*]; done)), H', ⟨Nat.le_refl _⟩, ⟨by (with_reducible repeat (first | apply Kd.R_alloc | apply Kd.R_drewN | apply Kd.R_drew)); exact HO_6.out⟩, ⟨bk BK163.out⟩, ⟨bk BK164.out⟩, ⟨bl⟩⟩
  clear H'
  clear c11b0 hcz21_0 hcz21_1 hcz21_2 hcz21_3 hfz21_0 hfz21_1 hfz21_2 hfz21_3
  obtain ⟨x38_2, rfl, HA, HK2, HO_6, BK163, BK164, HB⟩ := hrel
  cases gk with
  | zero => exact absurd HA.out (by simp [clocks_CheckFor.l1])
  | succ k2 =>
   have H := HA.out
   clear HA
   simp only [clocks_CheckFor.l1] at H
   by_cases c22 : x38_2 < (l0_1.length : Int)
   · rw [if_pos c22] at H
     have c22b0 : decide (x38_2 < (l0_1.length : Int)) = true := decide_eq_true c22
     clear c22
     by_cases c23 : 0 ≤ x38_2
     rotate_left
     · rw [if_neg c23] at H
       exact absurd H (by simp)
     rw [if_pos c23] at H
     have c23b0 : decide (0 ≤ x38_2) = true := decide_eq_true c23
     clear c23
     by_cases c24 : x38_2 < (l0_1.length : Int)
     rotate_left
     · rw [if_neg c24] at H
       exact absurd H (by simp)
     rw [if_pos c24] at H
     have c24b0 : decide (x38_2 < (l0_1.length : Int)) = true := decide_eq_true c24
     clear c24
     replace H := Option.bind_eq_some_iff.mp H
     obtain ⟨t173, A250, H⟩ := H
     replace H : (if t173 = true then (clocks_CheckFor.l1 k2 x6_1 l0_1 (l0_1.length : Int) (wrap64 (x38_2 + 1)) a0_0 l0_1 l0_2 l0_3 l1_0 l1_1 l1_2 l1_3 l1_4) else (some 7)) = some r := H
     have A25 := Aside0.mk A250
     clear A250
     by_cases c26 : t173 = true
     rotate_left
     · replace c26 := Bool.eq_false_iff.mpr c26
       subst c26
       have H1 : (some 7) = some r := by rw [if_neg (show ¬ (false = true) by decide)] at H; exact H
       clear H
       have H := H1
       clear H1
       obtain rfl := Option.some.inj H
       have p171 : 0 ≤ (x38_2 : Int) := of_decide_eq_true (by first | (with_reducible assumption) | assumption)
       have q171 : x38_2 < (l0_1.length : Int) := of_decide_eq_true (by first | (with_reducible assumption) | assumption)
       obtain ⟨ad171, e171, hx171_0, hx171_1, hx171_2⟩ := at_T78 HR0_1.out x38_2 p171 q171
       cases e171
       replace hx171_0 := hc HB.out hx171_0
       replace hx171_1 := hc HB.out hx171_1
       replace hx171_2 := hc HB.out hx171_2
       replace p171 := eq_true p171
       replace q171 := eq_true q171
       go_wp2_with (first | ((with_reducible refine gate_dst (N := 10) rfl ?_); refine box_event ?hg (N := 10) ?hd (cs := #[.string (⟨#[]⟩ : ByteArray), .int .i64 0, .int .i64 0]) (t := 78) ?hr ?_; (case hd => rfl); (case hg => rfl); (case hr => first | (go_simp; done) | (go_simp; rfl)); intro gb172 hg w33 hbox hb; replace HO_6 := Aside0.mk (rb HO_6.out hb); have BK172 := Aside0.mk (hbox); have GE172 := Aside0.mk (ge (w := w) hg); replace HB := Aside0.mk (below_step bl hb); have NB163_172 := Aside0.mk (nl hg (bk BK163.out)); have NB172_163 := Aside0.mk (ng hg (bk BK163.out)); replace BK163 := Aside0.mk (bb BK163.out hb); have NB164_172 := Aside0.mk (nl hg (bk BK164.out)); have NB172_164 := Aside0.mk (ng hg (bk BK164.out)); replace BK164 := Aside0.mk (bb BK164.out hb); clear hb hbox hg; have hnc35 := NB164_172.out; obtain ⟨hcz36_0, hcz36_1, hcz36_2, hfz36_0, hfz36_1, hfz36_2⟩ := bz3 BK172.out; have hnb37 := NB164_163.out; have hnc37 := NB163_164.out; obtain ⟨hcz38_0, hcz38_1, hcz38_2, hcz38_3, hcz38_4, hfz38_0, hfz38_1, hfz38_2, hfz38_3, hfz38_4⟩ := bz5 BK164.out) | ((with_reducible refine gate_callee (f := 27) rfl ?_); refine goesL_ (some 46) rfl rfl Tryd.func27 (by kernel_rfl) rfl #[.slice A1_0 l1_0.length c1_0, .string ((rd_T78 l0_1 x38_2).f0)] rfl (by (try simp only [List.map_toArray, List.map_cons, List.map_nil]); first | done | rfl | (simp only [List.length_drop, List.length_take]; rfl)) ?_; (with_reducible refine (slices_Contains_string_string.calls k2 _ _ l1_0 ((rd_T78 l0_1 x38_2).f0) false _ ?side1 ?side2 A25.out).mono ?_); (case side1 => exact Kd.C_below HR1_0.out bl); (case side2 => exact HC1_0.out); rintro e w' ⟨rfl, ⟨nd, rfl⟩⟩; refine ⟨_, rfl, ?_⟩))
       go_ret
       exact ⟨by first | rfl | (simp [errW_none, errW_some] <;> rfl) | (simp [*, errW_none, errW_some] <;> rfl), bl⟩
     subst c26
     have H1 : (clocks_CheckFor.l1 k2 x6_1 l0_1 (l0_1.length : Int) (wrap64 (x38_2 + 1)) a0_0 l0_1 l0_2 l0_3 l1_0 l1_1 l1_2 l1_3 l1_4) = some r := by rw [if_pos rfl] at H; exact H
     clear H
     have H := H1
     clear H1
     have H' := Aside0.mk H
     clear H
     have p171 : 0 ≤ (x38_2 : Int) := of_decide_eq_true (by first | (with_reducible assumption) | assumption)
     have q171 : x38_2 < (l0_1.length : Int) := of_decide_eq_true (by first | (with_reducible assumption) | assumption)
     obtain ⟨ad171, e171, hx171_0, hx171_1, hx171_2⟩ := at_T78 HR0_1.out x38_2 p171 q171
     cases e171
     replace hx171_0 := hc HB.out hx171_0
     replace hx171_1 := hc HB.out hx171_1
     replace hx171_2 := hc HB.out hx171_2
     replace p171 := eq_true p171
     replace q171 := eq_true q171
     go_wp2_with (first | ((with_reducible refine gate_dst (N := 10) rfl ?_); refine box_event ?hg (N := 10) ?hd (cs := #[.string (⟨#[]⟩ : ByteArray), .int .i64 0, .int .i64 0]) (t := 78) ?hr ?_; (case hd => rfl); (case hg => rfl); (case hr => first | (go_simp; done) | (go_simp; rfl)); intro gb172 hg w27 hbox hb; replace HO_6 := Aside0.mk (rb HO_6.out hb); have BK172 := Aside0.mk (hbox); have GE172 := Aside0.mk (ge (w := w) hg); replace HB := Aside0.mk (below_step bl hb); have NB163_172 := Aside0.mk (nl hg (bk BK163.out)); have NB172_163 := Aside0.mk (ng hg (bk BK163.out)); replace BK163 := Aside0.mk (bb BK163.out hb); have NB164_172 := Aside0.mk (nl hg (bk BK164.out)); have NB172_164 := Aside0.mk (ng hg (bk BK164.out)); replace BK164 := Aside0.mk (bb BK164.out hb); clear hb hbox hg; have hnc29 := NB164_172.out; obtain ⟨hcz30_0, hcz30_1, hcz30_2, hfz30_0, hfz30_1, hfz30_2⟩ := bz3 BK172.out; have hnb31 := NB164_163.out; have hnc31 := NB163_164.out; obtain ⟨hcz32_0, hcz32_1, hcz32_2, hcz32_3, hcz32_4, hfz32_0, hfz32_1, hfz32_2, hfz32_3, hfz32_4⟩ := bz5 BK164.out) | ((with_reducible refine gate_callee (f := 27) rfl ?_); refine goesL_ (some 46) rfl rfl Tryd.func27 (by kernel_rfl) rfl #[.slice A1_0 l1_0.length c1_0, .string ((rd_T78 l0_1 x38_2).f0)] rfl (by (try simp only [List.map_toArray, List.map_cons, List.map_nil]); first | done | rfl | (simp only [List.length_drop, List.length_take]; rfl)) ?_; (with_reducible refine (slices_Contains_string_string.calls k2 _ _ l1_0 ((rd_T78 l0_1 x38_2).f0) true _ ?side1 ?side2 A25.out).mono ?_); (case side1 => exact Kd.C_below HR1_0.out bl); (case side2 => exact HC1_0.out); rintro e w' ⟨rfl, ⟨nd, rfl⟩⟩; refine ⟨_, rfl, ?_⟩))
     go_roundg k2
     case measure => have := HK1.out; have := HK2.out; omega
     case rel => exact ⟨(wrap64 (x38_2 + 1)), (by first | rfl | (simp; done) | (simp [*]; done)), H', ⟨by have := HK1.out; have := HK2.out; omega⟩, ⟨by (with_reducible repeat (first | apply Kd.R_alloc | apply Kd.R_drewN | apply Kd.R_drew)); exact Kd.R_mono (Kd.R_far (p := ⟨gb172, 2, none⟩) (Kd.R_far (p := ⟨gb172, 1, none⟩) (Kd.R_far (p := ⟨gb172, 0, none⟩) (Kd.R_types HO_6.out BK172.out (by decide)) (fun _ hk => hk.2) (.string ((rd_T78 l0_1 x38_2).f0))) (fun _ hk => hk.2) (.int .i64 ((rd_T78 l0_1 x38_2).f1.f0))) (fun _ hk => hk.2) (.int .i64 ((rd_T78 l0_1 x38_2).f1.f1))) (fun _ hk => trivial)⟩, ⟨bf BK163.out⟩, ⟨bf BK164.out⟩, ⟨bl⟩⟩
   rw [if_neg c22] at H
   have c22b0 : decide (x38_2 < (l0_1.length : Int)) = false := decide_eq_false c22
   clear c22
   have H' := Aside0.mk H
   clear H
   obtain ⟨hcz40_0, hcz40_1, hcz40_2, hcz40_3, hfz40_0, hfz40_1, hfz40_2, hfz40_3⟩ := bz4 BK163.out
   go_wp2
   go_loopg [52] k2 (fun kq v52 w' => ∃ (x52_3 : Int), v52 = .int .i64 x52_3 ∧ Aside0 (clocks_CheckFor.l2 kq x6_1 l0_2 (l0_2.length : Int) x52_3 a0_0 l0_1 l0_2 l0_3 l1_0 l1_1 l1_2 l1_3 l1_4 = some r) ∧ Aside0 (kq ≤ k2) ∧ Aside0 (Kd.R Kd.string 9 w' w.heap.size (fun _ => True) u6 x6_1) ∧ Aside0 (w'.heap[gb163]? = some (.cells #[.int .i64 a0_0, (.slice A0_1 l0_1.length c0_1), (.slice A0_2 l0_2.length c0_2), (.slice A0_3 l0_3.length c0_3)] 37 (0, 0))) ∧ Aside0 (w'.heap[gb164]? = some (.cells #[(.slice A1_0 l1_0.length c1_0), (.slice A1_1 l1_1.length c1_1), (.slice A1_2 l1_2.length c1_2), (.slice A1_3 l1_3.length c1_3), (.slice A1_4 l1_4.length c1_4)] 27 (0, 0))) ∧ Aside0 (Below w.heap.size w w'))
   case atStart => exact ⟨(0), (by first | rfl | (simp; done) | (simp [*]; done)), H', ⟨Nat.le_refl _⟩, ⟨by (with_reducible repeat (first | apply Kd.R_alloc | apply Kd.R_drewN | apply Kd.R_drew)); exact HO_6.out⟩, ⟨bk BK163.out⟩, ⟨bk BK164.out⟩, ⟨bl⟩⟩
   clear H'
   clear c22b0 hcz40_0 hcz40_1 hcz40_2 hcz40_3 hfz40_0 hfz40_1 hfz40_2 hfz40_3
   obtain ⟨x52_3, rfl, HA, HK3, HO_6, BK163, BK164, HB⟩ := hrel
   cases gk with
   | zero => exact absurd HA.out (by simp [clocks_CheckFor.l2])
   | succ k3 =>
    have H := HA.out
    clear HA
    simp only [clocks_CheckFor.l2] at H
    by_cases c41 : x52_3 < (l0_2.length : Int)
    · rw [if_pos c41] at H
      have c41b0 : decide (x52_3 < (l0_2.length : Int)) = true := decide_eq_true c41
      clear c41
      by_cases c42 : 0 ≤ x52_3
      rotate_left
      · rw [if_neg c42] at H
        exact absurd H (by simp)
      rw [if_pos c42] at H
      have c42b0 : decide (0 ≤ x52_3) = true := decide_eq_true c42
      clear c42
      by_cases c43 : x52_3 < (l0_2.length : Int)
      rotate_left
      · rw [if_neg c43] at H
        exact absurd H (by simp)
      rw [if_pos c43] at H
      have c43b0 : decide (x52_3 < (l0_2.length : Int)) = true := decide_eq_true c43
      clear c43
      replace H := Option.bind_eq_some_iff.mp H
      obtain ⟨t176, A440, H⟩ := H
      replace H : (if t176 = true then (clocks_CheckFor.l2 k3 x6_1 l0_2 (l0_2.length : Int) (wrap64 (x52_3 + 1)) a0_0 l0_1 l0_2 l0_3 l1_0 l1_1 l1_2 l1_3 l1_4) else (some 7)) = some r := H
      have A44 := Aside0.mk A440
      clear A440
      by_cases c45 : t176 = true
      rotate_left
      · replace c45 := Bool.eq_false_iff.mpr c45
        subst c45
        have H1 : (some 7) = some r := by rw [if_neg (show ¬ (false = true) by decide)] at H; exact H
        clear H
        have H := H1
        clear H1
        obtain rfl := Option.some.inj H
        have p174 : 0 ≤ (x52_3 : Int) := of_decide_eq_true (by first | (with_reducible assumption) | assumption)
        have q174 : x52_3 < (l0_2.length : Int) := of_decide_eq_true (by first | (with_reducible assumption) | assumption)
        obtain ⟨ad174, e174, hx174_0, hx174_1⟩ := at_T81 HR0_2.out x52_3 p174 q174
        cases e174
        replace hx174_0 := hc HB.out hx174_0
        replace hx174_1 := hc HB.out hx174_1
        replace p174 := eq_true p174
        replace q174 := eq_true q174
        go_wp2_with (first | ((with_reducible refine gate_dst (N := 12) rfl ?_); refine box_event ?hg (N := 12) ?hd (cs := #[.string (⟨#[]⟩ : ByteArray), .int .i64 0]) (t := 81) ?hr ?_; (case hd => rfl); (case hg => rfl); (case hr => first | (go_simp; done) | (go_simp; rfl)); intro gb175 hg w52 hbox hb; replace HO_6 := Aside0.mk (rb HO_6.out hb); have BK175 := Aside0.mk (hbox); have GE175 := Aside0.mk (ge (w := w) hg); replace HB := Aside0.mk (below_step bl hb); have NB163_175 := Aside0.mk (nl hg (bk BK163.out)); have NB175_163 := Aside0.mk (ng hg (bk BK163.out)); replace BK163 := Aside0.mk (bb BK163.out hb); have NB164_175 := Aside0.mk (nl hg (bk BK164.out)); have NB175_164 := Aside0.mk (ng hg (bk BK164.out)); replace BK164 := Aside0.mk (bb BK164.out hb); clear hb hbox hg; have hnc54 := NB164_175.out; obtain ⟨hcz55_0, hcz55_1, hfz55_0, hfz55_1⟩ := bz2 BK175.out; have hnb56 := NB164_163.out; have hnc56 := NB163_164.out; obtain ⟨hcz57_0, hcz57_1, hcz57_2, hcz57_3, hcz57_4, hfz57_0, hfz57_1, hfz57_2, hfz57_3, hfz57_4⟩ := bz5 BK164.out) | ((with_reducible refine gate_callee (f := 27) rfl ?_); refine goesL_ (some 60) rfl rfl Tryd.func27 (by kernel_rfl) rfl #[.slice A1_1 l1_1.length c1_1, .string ((rd_T81 l0_2 x52_3).f0)] rfl (by (try simp only [List.map_toArray, List.map_cons, List.map_nil]); first | done | rfl | (simp only [List.length_drop, List.length_take]; rfl)) ?_; (with_reducible refine (slices_Contains_string_string.calls k3 _ _ l1_1 ((rd_T81 l0_2 x52_3).f0) false _ ?side1 ?side2 A44.out).mono ?_); (case side1 => exact Kd.C_below HR1_1.out bl); (case side2 => exact HC1_1.out); rintro e w' ⟨rfl, ⟨nd, rfl⟩⟩; refine ⟨_, rfl, ?_⟩))
        go_ret
        exact ⟨by first | rfl | (simp [errW_none, errW_some] <;> rfl) | (simp [*, errW_none, errW_some] <;> rfl), bl⟩
      subst c45
      have H1 : (clocks_CheckFor.l2 k3 x6_1 l0_2 (l0_2.length : Int) (wrap64 (x52_3 + 1)) a0_0 l0_1 l0_2 l0_3 l1_0 l1_1 l1_2 l1_3 l1_4) = some r := by rw [if_pos rfl] at H; exact H
      clear H
      have H := H1
      clear H1
      have H' := Aside0.mk H
      clear H
      have p174 : 0 ≤ (x52_3 : Int) := of_decide_eq_true (by first | (with_reducible assumption) | assumption)
      have q174 : x52_3 < (l0_2.length : Int) := of_decide_eq_true (by first | (with_reducible assumption) | assumption)
      obtain ⟨ad174, e174, hx174_0, hx174_1⟩ := at_T81 HR0_2.out x52_3 p174 q174
      cases e174
      replace hx174_0 := hc HB.out hx174_0
      replace hx174_1 := hc HB.out hx174_1
      replace p174 := eq_true p174
      replace q174 := eq_true q174
      go_wp2_with (first | ((with_reducible refine gate_dst (N := 12) rfl ?_); refine box_event ?hg (N := 12) ?hd (cs := #[.string (⟨#[]⟩ : ByteArray), .int .i64 0]) (t := 81) ?hr ?_; (case hd => rfl); (case hg => rfl); (case hr => first | (go_simp; done) | (go_simp; rfl)); intro gb175 hg w46 hbox hb; replace HO_6 := Aside0.mk (rb HO_6.out hb); have BK175 := Aside0.mk (hbox); have GE175 := Aside0.mk (ge (w := w) hg); replace HB := Aside0.mk (below_step bl hb); have NB163_175 := Aside0.mk (nl hg (bk BK163.out)); have NB175_163 := Aside0.mk (ng hg (bk BK163.out)); replace BK163 := Aside0.mk (bb BK163.out hb); have NB164_175 := Aside0.mk (nl hg (bk BK164.out)); have NB175_164 := Aside0.mk (ng hg (bk BK164.out)); replace BK164 := Aside0.mk (bb BK164.out hb); clear hb hbox hg; have hnc48 := NB164_175.out; obtain ⟨hcz49_0, hcz49_1, hfz49_0, hfz49_1⟩ := bz2 BK175.out; have hnb50 := NB164_163.out; have hnc50 := NB163_164.out; obtain ⟨hcz51_0, hcz51_1, hcz51_2, hcz51_3, hcz51_4, hfz51_0, hfz51_1, hfz51_2, hfz51_3, hfz51_4⟩ := bz5 BK164.out) | ((with_reducible refine gate_callee (f := 27) rfl ?_); refine goesL_ (some 60) rfl rfl Tryd.func27 (by kernel_rfl) rfl #[.slice A1_1 l1_1.length c1_1, .string ((rd_T81 l0_2 x52_3).f0)] rfl (by (try simp only [List.map_toArray, List.map_cons, List.map_nil]); first | done | rfl | (simp only [List.length_drop, List.length_take]; rfl)) ?_; (with_reducible refine (slices_Contains_string_string.calls k3 _ _ l1_1 ((rd_T81 l0_2 x52_3).f0) true _ ?side1 ?side2 A44.out).mono ?_); (case side1 => exact Kd.C_below HR1_1.out bl); (case side2 => exact HC1_1.out); rintro e w' ⟨rfl, ⟨nd, rfl⟩⟩; refine ⟨_, rfl, ?_⟩))
      go_roundg k3
      case measure => have := HK1.out; have := HK2.out; have := HK3.out; omega
      case rel => exact ⟨(wrap64 (x52_3 + 1)), (by first | rfl | (simp; done) | (simp [*]; done)), H', ⟨by have := HK1.out; have := HK2.out; have := HK3.out; omega⟩, ⟨by (with_reducible repeat (first | apply Kd.R_alloc | apply Kd.R_drewN | apply Kd.R_drew)); exact Kd.R_mono (Kd.R_far (p := ⟨gb175, 1, none⟩) (Kd.R_far (p := ⟨gb175, 0, none⟩) (Kd.R_types HO_6.out BK175.out (by decide)) (fun _ hk => hk.2) (.string ((rd_T81 l0_2 x52_3).f0))) (fun _ hk => hk.2) (.int .i64 ((rd_T81 l0_2 x52_3).f1))) (fun _ hk => trivial)⟩, ⟨bf BK163.out⟩, ⟨bf BK164.out⟩, ⟨bl⟩⟩
    rw [if_neg c41] at H
    have c41b0 : decide (x52_3 < (l0_2.length : Int)) = false := decide_eq_false c41
    clear c41
    have H' := Aside0.mk H
    clear H
    obtain ⟨hcz59_0, hcz59_1, hcz59_2, hcz59_3, hfz59_0, hfz59_1, hfz59_2, hfz59_3⟩ := bz4 BK163.out
    go_wp2
    go_loopg [66] k3 (fun kq v66 w' => ∃ (x66_4 : Int), v66 = .int .i64 x66_4 ∧ Aside0 (clocks_CheckFor.l3 kq x6_1 l0_3 (l0_3.length : Int) x66_4 l1_0 l1_1 l1_2 l1_3 l1_4 = some r) ∧ Aside0 (kq ≤ k3) ∧ Aside0 (Kd.R Kd.string 9 w' w.heap.size (fun _ => True) u6 x6_1) ∧ Aside0 (w'.heap[gb163]? = some (.cells #[.int .i64 a0_0, (.slice A0_1 l0_1.length c0_1), (.slice A0_2 l0_2.length c0_2), (.slice A0_3 l0_3.length c0_3)] 37 (0, 0))) ∧ Aside0 (w'.heap[gb164]? = some (.cells #[(.slice A1_0 l1_0.length c1_0), (.slice A1_1 l1_1.length c1_1), (.slice A1_2 l1_2.length c1_2), (.slice A1_3 l1_3.length c1_3), (.slice A1_4 l1_4.length c1_4)] 27 (0, 0))) ∧ Aside0 (Below w.heap.size w w'))
    case atStart => exact ⟨(0), (by first | rfl | (simp; done) | (simp [*]; done)), H', ⟨Nat.le_refl _⟩, ⟨by (with_reducible repeat (first | apply Kd.R_alloc | apply Kd.R_drewN | apply Kd.R_drew)); exact HO_6.out⟩, ⟨bk BK163.out⟩, ⟨bk BK164.out⟩, ⟨bl⟩⟩
    clear H'
    clear c41b0 hcz59_0 hcz59_1 hcz59_2 hcz59_3 hfz59_0 hfz59_1 hfz59_2 hfz59_3
    obtain ⟨x66_4, rfl, HA, HK4, HO_6, BK163, BK164, HB⟩ := hrel
    cases gk with
    | zero => exact absurd HA.out (by simp [clocks_CheckFor.l3])
    | succ k4 =>
     have H := HA.out
     clear HA
     simp only [clocks_CheckFor.l3] at H
     by_cases c60 : x66_4 < (l0_3.length : Int)
     rotate_left
     · rw [if_neg c60] at H
       have c60b0 : decide (x66_4 < (l0_3.length : Int)) = false := decide_eq_false c60
       clear c60
       obtain rfl := Option.some.inj H
       go_wp2
       go_ret
       exact ⟨by first | rfl | (simp [errW_none, errW_some] <;> rfl) | (simp [*, errW_none, errW_some] <;> rfl), bl⟩
     rw [if_pos c60] at H
     have c60b0 : decide (x66_4 < (l0_3.length : Int)) = true := decide_eq_true c60
     clear c60
     by_cases c61 : 0 ≤ x66_4
     rotate_left
     · rw [if_neg c61] at H
       exact absurd H (by simp)
     rw [if_pos c61] at H
     have c61b0 : decide (0 ≤ x66_4) = true := decide_eq_true c61
     clear c61
     by_cases c62 : x66_4 < (l0_3.length : Int)
     rotate_left
     · rw [if_neg c62] at H
       exact absurd H (by simp)
     rw [if_pos c62] at H
     have c62b0 : decide (x66_4 < (l0_3.length : Int)) = true := decide_eq_true c62
     clear c62
     have HC63 := Aside0.mk H
     clear H
     have p177 : 0 ≤ (x66_4 : Int) := of_decide_eq_true (by first | (with_reducible assumption) | assumption)
     have q177 : x66_4 < (l0_3.length : Int) := of_decide_eq_true (by first | (with_reducible assumption) | assumption)
     obtain ⟨ad177, e177, hx177_0, hx177_1, hx177_2⟩ := at_T83 HR0_3.out x66_4 p177 q177
     cases e177
     replace hx177_0 := hc HB.out hx177_0
     replace hx177_1 := hc HB.out hx177_1
     replace hx177_2 := hc HB.out hx177_2
     replace p177 := eq_true p177
     replace q177 := eq_true q177
     go_upto_region 25 with (first | ((with_reducible refine gate_dst (N := 14) rfl ?_); refine box_event ?hg (N := 14) ?hd (cs := #[.string (⟨#[]⟩ : ByteArray), .string (⟨#[]⟩ : ByteArray), .int .i64 0]) (t := 83) ?hr ?_; (case hd => rfl); (case hg => rfl); (case hr => first | (go_simp; done) | (go_simp; rfl)); intro gb178 hg w64 hbox hb; replace HO_6 := Aside0.mk (rb HO_6.out hb); have BK178 := Aside0.mk (hbox); have GE178 := Aside0.mk (ge (w := w) hg); replace HB := Aside0.mk (below_step bl hb); have NB163_178 := Aside0.mk (nl hg (bk BK163.out)); have NB178_163 := Aside0.mk (ng hg (bk BK163.out)); replace BK163 := Aside0.mk (bb BK163.out hb); have NB164_178 := Aside0.mk (nl hg (bk BK164.out)); have NB178_164 := Aside0.mk (ng hg (bk BK164.out)); replace BK164 := Aside0.mk (bb BK164.out hb); clear hb hbox hg; obtain ⟨hcz67_0, hcz67_1, hcz67_2, hfz67_0, hfz67_1, hfz67_2⟩ := bz3 BK178.out))
     (try simp only [Act.put, List.setIfInBounds_toArray, List.set_cons_zero, List.set_cons_succ])
     go_cut [15] (fun v15 wc => ∃ (kq : Nat) (x15_62 : Bool), v15 = .bool x15_62 ∧ Aside0 (clocks_CheckFor.j4 kq x6_1 x15_62 l0_3 (l0_3.length : Int) x66_4 l1_0 l1_1 l1_2 l1_3 l1_4 ((rd_T83 l0_3 x66_4).f0) ((rd_T83 l0_3 x66_4).f1) ((rd_T83 l0_3 x66_4).f2) = some r) ∧ Aside0 (kq ≤ k4) ∧ Aside0 (Kd.R Kd.string 9 wc w.heap.size (fun _ => True) u6 x6_1) ∧ Aside0 (wc.heap[gb163]? = some (.cells #[.int .i64 a0_0, (.slice A0_1 l0_1.length c0_1), (.slice A0_2 l0_2.length c0_2), (.slice (some ad177) l0_3.length c0_3)] 37 (0, 0))) ∧ Aside0 (wc.heap[gb164]? = some (.cells #[(.slice A1_0 l1_0.length c1_0), (.slice A1_1 l1_1.length c1_1), (.slice A1_2 l1_2.length c1_2), (.slice A1_3 l1_3.length c1_3), (.slice A1_4 l1_4.length c1_4)] 27 (0, 0))) ∧ Aside0 (wc.heap[gb178]? = some (.cells #[.string ((rd_T83 l0_3 x66_4).f0), .string ((rd_T83 l0_3 x66_4).f1), .int .i64 ((rd_T83 l0_3 x66_4).f2)] 83 (0, 0))) ∧ Aside0 (Below w.heap.size w wc))
     case first =>
      have H := HC63.out
      clear HC63
      by_cases c68 : ((rd_T83 l0_3 x66_4).f0).toList = ([] : List UInt8)
      · rw [if_pos c68] at H
        have c68b0 : (((rd_T83 l0_3 x66_4).f0).toList == ([] : List UInt8)) = true := beq_iff_eq.mpr c68
        clear c68
        (first | rw [c68b0] | (simp only [i64_w, i32_w]; rw [c68b0]) | skip)
        have H' := Aside0.mk H
        clear H
        obtain ⟨hcz71_0, hcz71_1, hcz71_2, hfz71_0, hfz71_1, hfz71_2⟩ := bz3 BK178.out
        go_wp2
        go_meet
        case rel => exact ⟨_, (true), (by first | rfl | (simp; done) | (simp [*]; done)), H', ⟨by have := HK1.out; have := HK2.out; have := HK3.out; have := HK4.out; first | omega | exact Nat.le_refl _⟩, ⟨by (with_reducible repeat (first | apply Kd.R_alloc | apply Kd.R_drewN | apply Kd.R_drew)); exact Kd.R_mono (Kd.R_far (p := ⟨gb178, 2, none⟩) (Kd.R_far (p := ⟨gb178, 1, none⟩) (Kd.R_far (p := ⟨gb178, 0, none⟩) (Kd.R_types HO_6.out BK178.out (by decide)) (fun _ hk => hk.2) (.string ((rd_T83 l0_3 x66_4).f0))) (fun _ hk => hk.2) (.string ((rd_T83 l0_3 x66_4).f1))) (fun _ hk => hk.2) (.int .i64 ((rd_T83 l0_3 x66_4).f2))) (fun _ hk => trivial)⟩, ⟨bf BK163.out⟩, ⟨bf BK164.out⟩, ⟨by (with_reducible repeat (first | refine blk_drewN ?_ _ | refine blk_drew ?_ | refine blk_alloc ?_ _)); refine blk_put (cs := #[.string ((rd_T83 l0_3 x66_4).f0), .string ((rd_T83 l0_3 x66_4).f1), .int .i64 0]) ?_ 2 _ rfl; (with_reducible repeat (first | refine blk_drewN ?_ _ | refine blk_drew ?_ | refine blk_alloc ?_ _)); refine blk_put (cs := #[.string ((rd_T83 l0_3 x66_4).f0), .string (⟨#[]⟩ : ByteArray), .int .i64 0]) ?_ 1 _ rfl; (with_reducible repeat (first | refine blk_drewN ?_ _ | refine blk_drew ?_ | refine blk_alloc ?_ _)); refine blk_put (cs := #[.string (⟨#[]⟩ : ByteArray), .string (⟨#[]⟩ : ByteArray), .int .i64 0]) ?_ 0 _ rfl; (with_reducible repeat (first | refine blk_drewN ?_ _ | refine blk_drew ?_ | refine blk_alloc ?_ _)); exact BK178.out⟩, ⟨bl⟩⟩
      rw [if_neg c68] at H
      have c68b0 : (((rd_T83 l0_3 x66_4).f0).toList == ([] : List UInt8)) = false := beq_eq_false_iff_ne.mpr c68
      (first | rw [c68b0] | (simp only [i64_w, i32_w]; rw [c68b0]) | skip)
      replace H := Option.bind_eq_some_iff.mp H
      obtain ⟨t179, A720, H⟩ := H
      replace H : (if t179 = true then (clocks_CheckFor.j4 k4 x6_1 true l0_3 (l0_3.length : Int) x66_4 l1_0 l1_1 l1_2 l1_3 l1_4 ((rd_T83 l0_3 x66_4).f0) ((rd_T83 l0_3 x66_4).f1) ((rd_T83 l0_3 x66_4).f2)) else ((slices_Contains_string_string.f k4 x6_1 ((rd_T83 l0_3 x66_4).f0)).bind fun t180 => (clocks_CheckFor.j4 k4 x6_1 t180 l0_3 (l0_3.length : Int) x66_4 l1_0 l1_1 l1_2 l1_3 l1_4 ((rd_T83 l0_3 x66_4).f0) ((rd_T83 l0_3 x66_4).f1) ((rd_T83 l0_3 x66_4).f2)))) = some r := H
      have A72 := Aside0.mk A720
      clear A720
      by_cases c73 : t179 = true
      · subst c73
        have H1 : (clocks_CheckFor.j4 k4 x6_1 true l0_3 (l0_3.length : Int) x66_4 l1_0 l1_1 l1_2 l1_3 l1_4 ((rd_T83 l0_3 x66_4).f0) ((rd_T83 l0_3 x66_4).f1) ((rd_T83 l0_3 x66_4).f2)) = some r := by rw [if_pos rfl] at H; exact H
        clear H
        have H := H1
        clear H1
        have H' := Aside0.mk H
        clear H
        have hnc75 := NB164_178.out
        obtain ⟨hcz76_0, hcz76_1, hcz76_2, hfz76_0, hfz76_1, hfz76_2⟩ := bz3 BK178.out
        have hnb77 := NB164_163.out
        have hnc77 := NB163_164.out
        obtain ⟨hcz78_0, hcz78_1, hcz78_2, hcz78_3, hcz78_4, hfz78_0, hfz78_1, hfz78_2, hfz78_3, hfz78_4⟩ := bz5 BK164.out
        go_wp2_with (go_at_call 27; (with_reducible refine (slices_Contains_string_string.calls k4 _ _ l1_0 ((rd_T83 l0_3 x66_4).f0) true _ ?side1 ?side2 A72.out).mono ?_); (case side1 => exact Kd.C_below HR1_0.out bl); (case side2 => exact HC1_0.out); rintro e w' ⟨rfl, ⟨nd, rfl⟩⟩)
        go_meet
        case rel => exact ⟨_, (true), (by first | rfl | (simp; done) | (simp [*]; done)), H', ⟨by have := HK1.out; have := HK2.out; have := HK3.out; have := HK4.out; first | omega | exact Nat.le_refl _⟩, ⟨by (with_reducible repeat (first | apply Kd.R_alloc | apply Kd.R_drewN | apply Kd.R_drew)); exact Kd.R_mono (Kd.R_far (p := ⟨gb178, 2, none⟩) (Kd.R_far (p := ⟨gb178, 1, none⟩) (Kd.R_far (p := ⟨gb178, 0, none⟩) (Kd.R_types HO_6.out BK178.out (by decide)) (fun _ hk => hk.2) (.string ((rd_T83 l0_3 x66_4).f0))) (fun _ hk => hk.2) (.string ((rd_T83 l0_3 x66_4).f1))) (fun _ hk => hk.2) (.int .i64 ((rd_T83 l0_3 x66_4).f2))) (fun _ hk => trivial)⟩, ⟨bf BK163.out⟩, ⟨bf BK164.out⟩, ⟨by (with_reducible repeat (first | refine blk_drewN ?_ _ | refine blk_drew ?_ | refine blk_alloc ?_ _)); refine blk_put (cs := #[.string ((rd_T83 l0_3 x66_4).f0), .string ((rd_T83 l0_3 x66_4).f1), .int .i64 0]) ?_ 2 _ rfl; (with_reducible repeat (first | refine blk_drewN ?_ _ | refine blk_drew ?_ | refine blk_alloc ?_ _)); refine blk_put (cs := #[.string ((rd_T83 l0_3 x66_4).f0), .string (⟨#[]⟩ : ByteArray), .int .i64 0]) ?_ 1 _ rfl; (with_reducible repeat (first | refine blk_drewN ?_ _ | refine blk_drew ?_ | refine blk_alloc ?_ _)); refine blk_put (cs := #[.string (⟨#[]⟩ : ByteArray), .string (⟨#[]⟩ : ByteArray), .int .i64 0]) ?_ 0 _ rfl; (with_reducible repeat (first | refine blk_drewN ?_ _ | refine blk_drew ?_ | refine blk_alloc ?_ _)); exact BK178.out⟩, ⟨bl⟩⟩
      replace c73 := Bool.eq_false_iff.mpr c73
      subst c73
      have H1 : ((slices_Contains_string_string.f k4 x6_1 ((rd_T83 l0_3 x66_4).f0)).bind fun t180 => (clocks_CheckFor.j4 k4 x6_1 t180 l0_3 (l0_3.length : Int) x66_4 l1_0 l1_1 l1_2 l1_3 l1_4 ((rd_T83 l0_3 x66_4).f0) ((rd_T83 l0_3 x66_4).f1) ((rd_T83 l0_3 x66_4).f2))) = some r := by rw [if_neg (show ¬ (false = true) by decide)] at H; exact H
      clear H
      have H := H1
      clear H1
      replace H := Option.bind_eq_some_iff.mp H
      obtain ⟨t180, A790, H⟩ := H
      replace H : (clocks_CheckFor.j4 k4 x6_1 t180 l0_3 (l0_3.length : Int) x66_4 l1_0 l1_1 l1_2 l1_3 l1_4 ((rd_T83 l0_3 x66_4).f0) ((rd_T83 l0_3 x66_4).f1) ((rd_T83 l0_3 x66_4).f2)) = some r := H
      have A79 := Aside0.mk A790
      clear A790
      have H' := Aside0.mk H
      clear H
      have hnc81 := NB164_178.out
      obtain ⟨hcz82_0, hcz82_1, hcz82_2, hfz82_0, hfz82_1, hfz82_2⟩ := bz3 BK178.out
      have hnb83 := NB164_163.out
      have hnc83 := NB163_164.out
      obtain ⟨hcz84_0, hcz84_1, hcz84_2, hcz84_3, hcz84_4, hfz84_0, hfz84_1, hfz84_2, hfz84_3, hfz84_4⟩ := bz5 BK164.out
      go_wp2_with (first | (go_at_call 27; (with_reducible refine (slices_Contains_string_string.calls k4 _ _ l1_0 ((rd_T83 l0_3 x66_4).f0) false _ ?side1 ?side2 A72.out).mono ?_); (case side1 => exact Kd.C_below HR1_0.out bl); (case side2 => exact HC1_0.out); rintro e w' ⟨rfl, ⟨nd, rfl⟩⟩; obtain ⟨Ao85, co85, eo85⟩ := Kd.R_slice HO_6.out; subst eo85) | (go_at_call 27; (with_reducible refine (slices_Contains_string_string.calls k4 _ _ x6_1 ((rd_T83 l0_3 x66_4).f0) t180 _ ?side1 ?side2 A79.out).mono ?_); (case side1 => refine (Kd.R_reads' (e := 9) (base := w.heap.size) (ok := fun k_ => True) (n := x6_1.length) (c := co85) ?_).2.2; exact (by (with_reducible repeat (first | apply Kd.R_alloc | apply Kd.R_drewN | apply Kd.R_drew)); exact (Kd.R_mono (Kd.R_far (p := ⟨gb178, 2, none⟩) (Kd.R_far (p := ⟨gb178, 1, none⟩) (Kd.R_far (p := ⟨gb178, 0, none⟩) (Kd.R_types HO_6.out BK178.out (by decide)) (fun _ hk => hk.2) (.string ((rd_T83 l0_3 x66_4).f0))) (fun _ hk => hk.2) (.string ((rd_T83 l0_3 x66_4).f1))) (fun _ hk => hk.2) (.int .i64 ((rd_T83 l0_3 x66_4).f2))) (fun _ h_ => h_.1)))); (case side2 => exact (Kd.R_reads' HO_6.out).2.1); rintro e w' ⟨rfl, ⟨nd, rfl⟩⟩))
      go_meet
      case rel => exact ⟨_, (t180), (by first | rfl | (simp; done) | (simp [*]; done)), H', ⟨by have := HK1.out; have := HK2.out; have := HK3.out; have := HK4.out; first | omega | exact Nat.le_refl _⟩, ⟨by (with_reducible repeat (first | apply Kd.R_alloc | apply Kd.R_drewN | apply Kd.R_drew)); exact Kd.R_mono (Kd.R_far (p := ⟨gb178, 2, none⟩) (Kd.R_far (p := ⟨gb178, 1, none⟩) (Kd.R_far (p := ⟨gb178, 0, none⟩) (Kd.R_types HO_6.out BK178.out (by decide)) (fun _ hk => hk.2) (.string ((rd_T83 l0_3 x66_4).f0))) (fun _ hk => hk.2) (.string ((rd_T83 l0_3 x66_4).f1))) (fun _ hk => hk.2) (.int .i64 ((rd_T83 l0_3 x66_4).f2))) (fun _ hk => trivial)⟩, ⟨bf BK163.out⟩, ⟨bf BK164.out⟩, ⟨by (with_reducible repeat (first | refine blk_drewN ?_ _ | refine blk_drew ?_ | refine blk_alloc ?_ _)); refine blk_put (cs := #[.string ((rd_T83 l0_3 x66_4).f0), .string ((rd_T83 l0_3 x66_4).f1), .int .i64 0]) ?_ 2 _ rfl; (with_reducible repeat (first | refine blk_drewN ?_ _ | refine blk_drew ?_ | refine blk_alloc ?_ _)); refine blk_put (cs := #[.string ((rd_T83 l0_3 x66_4).f0), .string (⟨#[]⟩ : ByteArray), .int .i64 0]) ?_ 1 _ rfl; (with_reducible repeat (first | refine blk_drewN ?_ _ | refine blk_drew ?_ | refine blk_alloc ?_ _)); refine blk_put (cs := #[.string (⟨#[]⟩ : ByteArray), .string (⟨#[]⟩ : ByteArray), .int .i64 0]) ?_ 0 _ rfl; (with_reducible repeat (first | refine blk_drewN ?_ _ | refine blk_drew ?_ | refine blk_alloc ?_ _)); exact BK178.out⟩, ⟨bl⟩⟩
     clear HC63
     clear c60b0 c61b0 c62b0 hcz67_0 hcz67_1 hcz67_2 hfz67_0 hfz67_1 hfz67_2 hx177_0 hx177_1 hx177_2 p177 q177
     obtain ⟨kq, x15_62, rfl, HA, HJ62, HO_6, BK163, BK164, BK178, HB⟩ := hcut
     cases kq with
     | zero => exact absurd HA.out (by simp [clocks_CheckFor.j4])
     | succ kj62 =>
      have H := HA.out
      clear HA
      simp only [clocks_CheckFor.j4] at H
      by_cases c86 : ((rd_T83 l0_3 x66_4).f1).toList = ([] : List UInt8)
      · rw [if_pos c86] at H
        have c86b0 : (((rd_T83 l0_3 x66_4).f1).toList == ([] : List UInt8)) = true := beq_iff_eq.mpr c86
        clear c86
        by_cases c87 : x15_62 = true
        rotate_left
        · replace c87 := Bool.eq_false_iff.mpr c87
          subst c87
          have H1 : (some 7) = some r := by rw [if_neg (show ¬ (false = true) by decide)] at H; exact H
          clear H
          have H := H1
          clear H1
          obtain rfl := Option.some.inj H
          obtain ⟨hcz93_0, hcz93_1, hcz93_2, hfz93_0, hfz93_1, hfz93_2⟩ := bz3 BK178.out
          go_wp2
          go_ret
          exact ⟨by first | rfl | (simp [errW_none, errW_some] <;> rfl) | (simp [*, errW_none, errW_some] <;> rfl), bl⟩
        subst c87
        have H1 : (clocks_CheckFor.l3 kj62 x6_1 l0_3 (l0_3.length : Int) (wrap64 (x66_4 + 1)) l1_0 l1_1 l1_2 l1_3 l1_4) = some r := by rw [if_pos rfl] at H; exact H
        clear H
        have H := H1
        clear H1
        have H' := Aside0.mk H
        clear H
        obtain ⟨hcz90_0, hcz90_1, hcz90_2, hfz90_0, hfz90_1, hfz90_2⟩ := bz3 BK178.out
        go_wp2
        go_roundg kj62
        case measure => have := HK1.out; have := HK2.out; have := HK3.out; have := HK4.out; have := HJ62.out; omega
        case rel => exact ⟨(wrap64 (x66_4 + 1)), (by first | rfl | (simp; done) | (simp [*]; done)), H', ⟨by have := HK1.out; have := HK2.out; have := HK3.out; have := HK4.out; have := HJ62.out; omega⟩, ⟨by (with_reducible repeat (first | apply Kd.R_alloc | apply Kd.R_drewN | apply Kd.R_drew)); exact HO_6.out⟩, ⟨bk BK163.out⟩, ⟨bk BK164.out⟩, ⟨bl⟩⟩
      rw [if_neg c86] at H
      have c86b0 : (((rd_T83 l0_3 x66_4).f1).toList == ([] : List UInt8)) = false := beq_eq_false_iff_ne.mpr c86
      replace H := Option.bind_eq_some_iff.mp H
      obtain ⟨t181, A940, H⟩ := H
      replace H : (if t181 = true then (if x15_62 = true then (clocks_CheckFor.l3 kj62 x6_1 l0_3 (l0_3.length : Int) (wrap64 (x66_4 + 1)) l1_0 l1_1 l1_2 l1_3 l1_4) else (some 7)) else ((slices_Contains_string_string.f kj62 x6_1 ((rd_T83 l0_3 x66_4).f1)).bind fun t182 => (if x15_62 = true then (if t182 = true then (clocks_CheckFor.l3 kj62 x6_1 l0_3 (l0_3.length : Int) (wrap64 (x66_4 + 1)) l1_0 l1_1 l1_2 l1_3 l1_4) else (some 7)) else (some 7)))) = some r := H
      have A94 := Aside0.mk A940
      clear A940
      by_cases c95 : t181 = true
      · subst c95
        have H1 : (if x15_62 = true then (clocks_CheckFor.l3 kj62 x6_1 l0_3 (l0_3.length : Int) (wrap64 (x66_4 + 1)) l1_0 l1_1 l1_2 l1_3 l1_4) else (some 7)) = some r := by rw [if_pos rfl] at H; exact H
        clear H
        have H := H1
        clear H1
        by_cases c96 : x15_62 = true
        rotate_left
        · replace c96 := Bool.eq_false_iff.mpr c96
          subst c96
          have H1 : (some 7) = some r := by rw [if_neg (show ¬ (false = true) by decide)] at H; exact H
          clear H
          have H := H1
          clear H1
          obtain rfl := Option.some.inj H
          obtain ⟨hcz104_0, hcz104_1, hcz104_2, hfz104_0, hfz104_1, hfz104_2⟩ := bz3 BK178.out
          obtain ⟨hcz106_0, hcz106_1, hcz106_2, hcz106_3, hcz106_4, hfz106_0, hfz106_1, hfz106_2, hfz106_3, hfz106_4⟩ := bz5 BK164.out
          go_wp2_with (go_at_call 27; (with_reducible refine (slices_Contains_string_string.calls kj62 _ _ l1_1 ((rd_T83 l0_3 x66_4).f1) true _ ?side1 ?side2 A94.out).mono ?_); (case side1 => exact kc (Kd.C_below HR1_1.out HB.out)); (case side2 => exact HC1_1.out); rintro e w' ⟨rfl, ⟨nd, rfl⟩⟩)
          go_ret
          exact ⟨by first | rfl | (simp [errW_none, errW_some] <;> rfl) | (simp [*, errW_none, errW_some] <;> rfl), bl⟩
        subst c96
        have H1 : (clocks_CheckFor.l3 kj62 x6_1 l0_3 (l0_3.length : Int) (wrap64 (x66_4 + 1)) l1_0 l1_1 l1_2 l1_3 l1_4) = some r := by rw [if_pos rfl] at H; exact H
        clear H
        have H := H1
        clear H1
        have H' := Aside0.mk H
        clear H
        obtain ⟨hcz99_0, hcz99_1, hcz99_2, hfz99_0, hfz99_1, hfz99_2⟩ := bz3 BK178.out
        obtain ⟨hcz101_0, hcz101_1, hcz101_2, hcz101_3, hcz101_4, hfz101_0, hfz101_1, hfz101_2, hfz101_3, hfz101_4⟩ := bz5 BK164.out
        go_wp2_with (go_at_call 27; (with_reducible refine (slices_Contains_string_string.calls kj62 _ _ l1_1 ((rd_T83 l0_3 x66_4).f1) true _ ?side1 ?side2 A94.out).mono ?_); (case side1 => exact kc (Kd.C_below HR1_1.out HB.out)); (case side2 => exact HC1_1.out); rintro e w' ⟨rfl, ⟨nd, rfl⟩⟩)
        go_roundg kj62
        case measure => have := HK1.out; have := HK2.out; have := HK3.out; have := HK4.out; have := HJ62.out; omega
        case rel => exact ⟨(wrap64 (x66_4 + 1)), (by first | rfl | (simp; done) | (simp [*]; done)), H', ⟨by have := HK1.out; have := HK2.out; have := HK3.out; have := HK4.out; have := HJ62.out; omega⟩, ⟨by (with_reducible repeat (first | apply Kd.R_alloc | apply Kd.R_drewN | apply Kd.R_drew)); exact HO_6.out⟩, ⟨bk BK163.out⟩, ⟨bk BK164.out⟩, ⟨bl⟩⟩
      replace c95 := Bool.eq_false_iff.mpr c95
      subst c95
      have H1 : ((slices_Contains_string_string.f kj62 x6_1 ((rd_T83 l0_3 x66_4).f1)).bind fun t182 => (if x15_62 = true then (if t182 = true then (clocks_CheckFor.l3 kj62 x6_1 l0_3 (l0_3.length : Int) (wrap64 (x66_4 + 1)) l1_0 l1_1 l1_2 l1_3 l1_4) else (some 7)) else (some 7))) = some r := by rw [if_neg (show ¬ (false = true) by decide)] at H; exact H
      clear H
      have H := H1
      clear H1
      replace H := Option.bind_eq_some_iff.mp H
      obtain ⟨t182, A1070, H⟩ := H
      replace H : (if x15_62 = true then (if t182 = true then (clocks_CheckFor.l3 kj62 x6_1 l0_3 (l0_3.length : Int) (wrap64 (x66_4 + 1)) l1_0 l1_1 l1_2 l1_3 l1_4) else (some 7)) else (some 7)) = some r := H
      have A107 := Aside0.mk A1070
      clear A1070
      by_cases c108 : x15_62 = true
      rotate_left
      · replace c108 := Bool.eq_false_iff.mpr c108
        subst c108
        have H1 : (some 7) = some r := by rw [if_neg (show ¬ (false = true) by decide)] at H; exact H
        clear H
        have H := H1
        clear H1
        obtain rfl := Option.some.inj H
        obtain ⟨hcz124_0, hcz124_1, hcz124_2, hfz124_0, hfz124_1, hfz124_2⟩ := bz3 BK178.out
        obtain ⟨hcz126_0, hcz126_1, hcz126_2, hcz126_3, hcz126_4, hfz126_0, hfz126_1, hfz126_2, hfz126_3, hfz126_4⟩ := bz5 BK164.out
        go_wp2_with (first | (go_at_call 27; (with_reducible refine (slices_Contains_string_string.calls kj62 _ _ l1_1 ((rd_T83 l0_3 x66_4).f1) false _ ?side1 ?side2 A94.out).mono ?_); (case side1 => exact kc (Kd.C_below HR1_1.out HB.out)); (case side2 => exact HC1_1.out); rintro e w' ⟨rfl, ⟨nd, rfl⟩⟩; obtain ⟨Ao127, co127, eo127⟩ := Kd.R_slice HO_6.out; subst eo127) | (go_at_call 27; (with_reducible refine (slices_Contains_string_string.calls kj62 _ _ x6_1 ((rd_T83 l0_3 x66_4).f1) t182 _ ?side1 ?side2 A107.out).mono ?_); (case side1 => exact kc ((Kd.R_reads' HO_6.out).2.2)); (case side2 => exact (Kd.R_reads' HO_6.out).2.1); rintro e w' ⟨rfl, ⟨nd, rfl⟩⟩))
        go_ret
        exact ⟨by first | rfl | (simp [errW_none, errW_some] <;> rfl) | (simp [*, errW_none, errW_some] <;> rfl), bl⟩
      subst c108
      have H1 : (if t182 = true then (clocks_CheckFor.l3 kj62 x6_1 l0_3 (l0_3.length : Int) (wrap64 (x66_4 + 1)) l1_0 l1_1 l1_2 l1_3 l1_4) else (some 7)) = some r := by rw [if_pos rfl] at H; exact H
      clear H
      have H := H1
      clear H1
      by_cases c109 : t182 = true
      rotate_left
      · replace c109 := Bool.eq_false_iff.mpr c109
        subst c109
        have H1 : (some 7) = some r := by rw [if_neg (show ¬ (false = true) by decide)] at H; exact H
        clear H
        have H := H1
        clear H1
        obtain rfl := Option.some.inj H
        obtain ⟨hcz118_0, hcz118_1, hcz118_2, hfz118_0, hfz118_1, hfz118_2⟩ := bz3 BK178.out
        obtain ⟨hcz120_0, hcz120_1, hcz120_2, hcz120_3, hcz120_4, hfz120_0, hfz120_1, hfz120_2, hfz120_3, hfz120_4⟩ := bz5 BK164.out
        go_wp2_with (first | (go_at_call 27; (with_reducible refine (slices_Contains_string_string.calls kj62 _ _ l1_1 ((rd_T83 l0_3 x66_4).f1) false _ ?side1 ?side2 A94.out).mono ?_); (case side1 => exact kc (Kd.C_below HR1_1.out HB.out)); (case side2 => exact HC1_1.out); rintro e w' ⟨rfl, ⟨nd, rfl⟩⟩; obtain ⟨Ao121, co121, eo121⟩ := Kd.R_slice HO_6.out; subst eo121) | (go_at_call 27; (with_reducible refine (slices_Contains_string_string.calls kj62 _ _ x6_1 ((rd_T83 l0_3 x66_4).f1) false _ ?side1 ?side2 A107.out).mono ?_); (case side1 => exact kc ((Kd.R_reads' HO_6.out).2.2)); (case side2 => exact (Kd.R_reads' HO_6.out).2.1); rintro e w' ⟨rfl, ⟨nd, rfl⟩⟩))
        go_ret
        exact ⟨by first | rfl | (simp [errW_none, errW_some] <;> rfl) | (simp [*, errW_none, errW_some] <;> rfl), bl⟩
      subst c109
      have H1 : (clocks_CheckFor.l3 kj62 x6_1 l0_3 (l0_3.length : Int) (wrap64 (x66_4 + 1)) l1_0 l1_1 l1_2 l1_3 l1_4) = some r := by rw [if_pos rfl] at H; exact H
      clear H
      have H := H1
      clear H1
      have H' := Aside0.mk H
      clear H
      obtain ⟨hcz112_0, hcz112_1, hcz112_2, hfz112_0, hfz112_1, hfz112_2⟩ := bz3 BK178.out
      obtain ⟨hcz114_0, hcz114_1, hcz114_2, hcz114_3, hcz114_4, hfz114_0, hfz114_1, hfz114_2, hfz114_3, hfz114_4⟩ := bz5 BK164.out
      go_wp2_with (first | (go_at_call 27; (with_reducible refine (slices_Contains_string_string.calls kj62 _ _ l1_1 ((rd_T83 l0_3 x66_4).f1) false _ ?side1 ?side2 A94.out).mono ?_); (case side1 => exact kc (Kd.C_below HR1_1.out HB.out)); (case side2 => exact HC1_1.out); rintro e w' ⟨rfl, ⟨nd, rfl⟩⟩; obtain ⟨Ao115, co115, eo115⟩ := Kd.R_slice HO_6.out; subst eo115) | (go_at_call 27; (with_reducible refine (slices_Contains_string_string.calls kj62 _ _ x6_1 ((rd_T83 l0_3 x66_4).f1) true _ ?side1 ?side2 A107.out).mono ?_); (case side1 => exact kc ((Kd.R_reads' HO_6.out).2.2)); (case side2 => exact (Kd.R_reads' HO_6.out).2.1); rintro e w' ⟨rfl, ⟨nd, rfl⟩⟩))
      go_roundg kj62
      case measure => have := HK1.out; have := HK2.out; have := HK3.out; have := HK4.out; have := HJ62.out; omega
      case rel => exact ⟨(wrap64 (x66_4 + 1)), (by first | rfl | (simp; done) | (simp [*]; done)), H', ⟨by have := HK1.out; have := HK2.out; have := HK3.out; have := HK4.out; have := HJ62.out; omega⟩, ⟨by (with_reducible repeat (first | apply Kd.R_alloc | apply Kd.R_drewN | apply Kd.R_drew)); exact HO_6.out⟩, ⟨bk BK163.out⟩, ⟨bk BK164.out⟩, ⟨bl⟩⟩

end Go.Proofs.YtlegjcagkmjfjaaDoor.PT
namespace Go.Proofs.YtlegjcagkmjfjaaDoor.PT
open Go.RowKit Go.Proofs.YtlegjcagkmjfjaaDoorW.PrintWords Go.Proofs.YtlegjcagkmjfjaaDoorW.PrintLast Go.Proofs.YtlegjcagkmjfjaaDoorW.PrintMore
attribute [local go_sem] max2_int min2_int max_two min_two max_three min_three max_four min_four   -- for this text's walks alone
set_option linter.unusedVariables false
set_option linter.unusedSimpArgs false

/-! ### timing_Check: function 5 -/
def timing_Check.l0 : Nat → List (S58) → Int → Int → List ByteArray → List ByteArray → List (S58) → List (S72) → List Int → List (S94) → List (List (S53)) → List (List (S53)) → List (S53) → List (S53) → List (S53) → Int → List (S78) → List (S81) → List (S83) → Option (Int)
 | 0, _, _, _, _, _, _, _, _, _, _, _, _, _, _, _, _, _, _ => none
 | k + 1, x17, x18, x19, x184000, x184001, x184002, x184003, x184004, x184005, x184006, x184007, x184008, x184009, x184010, x184011, x184012, x184013, x184014 => if x19 < x18 then (if 0 ≤ x19 then (if x19 < (x17.length : Int) then (if ((rd_T58 x17 x19).f1) < 0 then (some 8) else (timing_Check.l0 k x17 x18 (wrap64 (x19 + 1)) x184000 x184001 x184002 x184003 x184004 x184005 x184006 x184007 x184008 x184009 x184010 x184011 x184012 x184013 x184014)) else (none)) else (none)) else ((delay_Check.f k x184000 x184001 x184002 x184003 x184004 x184006 x184007 x184008 x184009 x184010).bind fun t187 => (if t187 = 0 then ((clocks_CheckFor.f k x184011 x184012 x184013 x184014 x184000 x184001 x184002 x184003 x184004).bind fun t188 => (some t188)) else (some t187)))
def timing_Check.f (k : Nat) (l0_0 : List ByteArray) (l0_1 : List ByteArray) (l0_2 : List (S58)) (l0_3 : List (S72)) (l0_4 : List Int) (l0_5 : List (S94)) (l0_6 : List (List (S53))) (l0_7 : List (List (S53))) (l0_8 : List (S53)) (l0_9 : List (S53)) (l0_10 : List (S53)) (a0_11 : Int) (l0_12 : List (S78)) (l0_13 : List (S81)) (l0_14 : List (S83)) : Option (Int) := (netlist_Check.f k l0_0 l0_1 l0_2 l0_3 l0_4 l0_5).bind fun t184 => (if t184 = 0 then (timing_Check.l0 k l0_2 (l0_2.length : Int) 0 l0_0 l0_1 l0_2 l0_3 l0_4 l0_5 l0_6 l0_7 l0_8 l0_9 l0_10 a0_11 l0_12 l0_13 l0_14) else (some t184))
theorem timing_Check.mono_l : ∀ k, (∀ y0 y1 y2 y3 y4 y5 y6 y7 y8 y9 y10 y11 y12 y13 y14 y15 y16 y17, LeO (timing_Check.l0 k y0 y1 y2 y3 y4 y5 y6 y7 y8 y9 y10 y11 y12 y13 y14 y15 y16 y17) (timing_Check.l0 (k + 1) y0 y1 y2 y3 y4 y5 y6 y7 y8 y9 y10 y11 y12 y13 y14 y15 y16 y17))
 | 0 => fun _ _ _ _ _ _ _ _ _ _ _ _ _ _ _ _ _ _ r h => by simp [timing_Check.l0] at h
 | k + 1 => by
  have ih0 := timing_Check.mono_l k
  · intro y0 y1 y2 y3 y4 y5 y6 y7 y8 y9 y10 y11 y12 y13 y14 y15 y16 y17
    unfold timing_Check.l0
    repeat' first
    | (with_reducible exact ih0 _ _ _ _ _ _ _ _ _ _ _ _ _ _ _ _ _ _)
    | (with_reducible exact clocks_CheckFor.mono _ _ _ _ _ _ _ _ _ _)
    | (with_reducible exact delay_Check.mono _ _ _ _ _ _ _ _ _ _ _)
    | (with_reducible exact netlist_Check.mono _ _ _ _ _ _ _)
    | (with_reducible exact LeO.refl _)
    | (with_reducible exact LeO.none _)
    | (with_reducible refine LeO.ite ?_ ?_)
    | (with_reducible refine LeO.bind ?_ (fun _ => ?_))
    | exact ih0 _ _ _ _ _ _ _ _ _ _ _ _ _ _ _ _ _ _
    | exact clocks_CheckFor.mono _ _ _ _ _ _ _ _ _ _
    | exact delay_Check.mono _ _ _ _ _ _ _ _ _ _ _
    | exact netlist_Check.mono _ _ _ _ _ _ _
    | exact LeO.none _
    | refine LeO.ite ?_ ?_
    | refine LeO.bind ?_ (fun _ => ?_)
theorem timing_Check.mono : ∀ a0 a1 a2 a3 a4 a5 a6 a7 a8 a9 a10 a11 a12 a13 a14 k, LeO (timing_Check.f k a0 a1 a2 a3 a4 a5 a6 a7 a8 a9 a10 a11 a12 a13 a14) (timing_Check.f (k + 1) a0 a1 a2 a3 a4 a5 a6 a7 a8 a9 a10 a11 a12 a13 a14) := by
 intro a0 a1 a2 a3 a4 a5 a6 a7 a8 a9 a10 a11 a12 a13 a14 k
 have ih0 := timing_Check.mono_l k
 unfold timing_Check.f
 repeat' first
  | (with_reducible exact ih0 _ _ _ _ _ _ _ _ _ _ _ _ _ _ _ _ _ _)
  | (with_reducible exact clocks_CheckFor.mono _ _ _ _ _ _ _ _ _ _)
  | (with_reducible exact delay_Check.mono _ _ _ _ _ _ _ _ _ _ _)
  | (with_reducible exact netlist_Check.mono _ _ _ _ _ _ _)
  | (with_reducible exact LeO.refl _)
  | (with_reducible exact LeO.none _)
  | (with_reducible refine LeO.ite ?_ ?_)
  | (with_reducible refine LeO.bind ?_ (fun _ => ?_))
  | exact ih0 _ _ _ _ _ _ _ _ _ _ _ _ _ _ _ _ _ _
  | exact clocks_CheckFor.mono _ _ _ _ _ _ _ _ _ _
  | exact delay_Check.mono _ _ _ _ _ _ _ _ _ _ _
  | exact netlist_Check.mono _ _ _ _ _ _ _
  | exact LeO.none _
  | refine LeO.ite ?_ ?_
  | refine LeO.bind ?_ (fun _ => ?_)
set_option maxHeartbeats 8000000 in
set_option maxRecDepth 100000 in
theorem timing_Check.calls (k : Nat) (A0_0 : Option Addr) (c0_0 : Nat) (l0_0 : List ByteArray) (A0_1 : Option Addr) (c0_1 : Nat) (l0_1 : List ByteArray) (A0_2 : Option Addr) (c0_2 : Nat) (l0_2 : List (S58)) (A0_3 : Option Addr) (c0_3 : Nat) (l0_3 : List (S72)) (A0_4 : Option Addr) (c0_4 : Nat) (l0_4 : List Int) (A0_5 : Option Addr) (c0_5 : Nat) (l0_5 : List (S94)) (A0_6 : Option Addr) (c0_6 : Nat) (l0_6 : List (List (S53))) (A0_7 : Option Addr) (c0_7 : Nat) (l0_7 : List (List (S53))) (A0_8 : Option Addr) (c0_8 : Nat) (l0_8 : List (S53)) (A0_9 : Option Addr) (c0_9 : Nat) (l0_9 : List (S53)) (A0_10 : Option Addr) (c0_10 : Nat) (l0_10 : List (S53)) (a0_11 : Int) (A0_12 : Option Addr) (c0_12 : Nat) (l0_12 : List (S78)) (A0_13 : Option Addr) (c0_13 : Nat) (l0_13 : List (S81)) (A0_14 : Option Addr) (c0_14 : Nat) (l0_14 : List (S83)) (r : Int) (w : World) (hr0_0 : Kd.C Kd.string w A0_0 l0_0.length l0_0) (hc0_0 : l0_0.length ≤ c0_0) (hr0_1 : Kd.C Kd.string w A0_1 l0_1.length l0_1) (hc0_1 : l0_1.length ≤ c0_1) (hr0_2 : Kd.C k58 w A0_2 l0_2.length l0_2) (hc0_2 : l0_2.length ≤ c0_2) (hr0_3 : Kd.C k72 w A0_3 l0_3.length l0_3) (hc0_3 : l0_3.length ≤ c0_3) (hr0_4 : Kd.C (Kd.int .i64) w A0_4 l0_4.length l0_4) (hc0_4 : l0_4.length ≤ c0_4) (hr0_5 : Kd.C k94 w A0_5 l0_5.length l0_5) (hc0_5 : l0_5.length ≤ c0_5) (hr0_6 : Kd.C (Kd.slice 53 k53) w A0_6 l0_6.length l0_6) (hc0_6 : l0_6.length ≤ c0_6) (hr0_7 : Kd.C (Kd.slice 53 k53) w A0_7 l0_7.length l0_7) (hc0_7 : l0_7.length ≤ c0_7) (hr0_8 : Kd.C k53 w A0_8 l0_8.length l0_8) (hc0_8 : l0_8.length ≤ c0_8) (hr0_9 : Kd.C k53 w A0_9 l0_9.length l0_9) (hc0_9 : l0_9.length ≤ c0_9) (hr0_10 : Kd.C k53 w A0_10 l0_10.length l0_10) (hc0_10 : l0_10.length ≤ c0_10) (hr0_12 : Kd.C k78 w A0_12 l0_12.length l0_12) (hc0_12 : l0_12.length ≤ c0_12) (hr0_13 : Kd.C k81 w A0_13 l0_13.length l0_13) (hc0_13 : l0_13.length ≤ c0_13) (hr0_14 : Kd.C k83 w A0_14 l0_14.length l0_14) (hc0_14 : l0_14.length ≤ c0_14) (h : timing_Check.f k l0_0 l0_1 l0_2 l0_3 l0_4 l0_5 l0_6 l0_7 l0_8 l0_9 l0_10 a0_11 l0_12 l0_13 l0_14 = some r) (hT : TabS w a0_11 l0_12 l0_13 l0_14) :
 Calls Tryd.prog 5 #[.agg #[.slice A0_0 l0_0.length c0_0, .slice A0_1 l0_1.length c0_1, .slice A0_2 l0_2.length c0_2, .slice A0_3 l0_3.length c0_3, .slice A0_4 l0_4.length c0_4, .slice A0_5 l0_5.length c0_5, .slice A0_6 l0_6.length c0_6, .slice A0_7 l0_7.length c0_7, .slice A0_8 l0_8.length c0_8, .slice A0_9 l0_9.length c0_9, .slice A0_10 l0_10.length c0_10, .int .i64 a0_11, .slice A0_12 l0_12.length c0_12, .slice A0_13 l0_13.length c0_13, .slice A0_14 l0_14.length c0_14]] w fun e w' => e = .returned (.int .i64 r) ∧ Below w.heap.size w w' := by
 have HTA := Aside0.mk (TabS_on hT)
 clear hT
 have HR0_0 := Aside0.mk hr0_0
 have HC0_0 := Aside0.mk hc0_0
 clear hr0_0 hc0_0
 have HR0_1 := Aside0.mk hr0_1
 have HC0_1 := Aside0.mk hc0_1
 clear hr0_1 hc0_1
 have HR0_2 := Aside0.mk hr0_2
 have HC0_2 := Aside0.mk hc0_2
 clear hr0_2 hc0_2
 have HR0_3 := Aside0.mk hr0_3
 have HC0_3 := Aside0.mk hc0_3
 clear hr0_3 hc0_3
 have HR0_4 := Aside0.mk hr0_4
 have HC0_4 := Aside0.mk hc0_4
 clear hr0_4 hc0_4
 have HR0_5 := Aside0.mk hr0_5
 have HC0_5 := Aside0.mk hc0_5
 clear hr0_5 hc0_5
 have HR0_6 := Aside0.mk hr0_6
 have HC0_6 := Aside0.mk hc0_6
 clear hr0_6 hc0_6
 have HR0_7 := Aside0.mk hr0_7
 have HC0_7 := Aside0.mk hc0_7
 clear hr0_7 hc0_7
 have HR0_8 := Aside0.mk hr0_8
 have HC0_8 := Aside0.mk hc0_8
 clear hr0_8 hc0_8
 have HR0_9 := Aside0.mk hr0_9
 have HC0_9 := Aside0.mk hc0_9
 clear hr0_9 hc0_9
 have HR0_10 := Aside0.mk hr0_10
 have HC0_10 := Aside0.mk hc0_10
 clear hr0_10 hc0_10
 have HR0_12 := Aside0.mk hr0_12
 have HC0_12 := Aside0.mk hc0_12
 clear hr0_12 hc0_12
 have HR0_13 := Aside0.mk hr0_13
 have HC0_13 := Aside0.mk hc0_13
 clear hr0_13 hc0_13
 have HR0_14 := Aside0.mk hr0_14
 have HC0_14 := Aside0.mk hc0_14
 clear hr0_14 hc0_14
 have HB := Aside0.mk (Below.refl w.heap.size w)
 have H : ((netlist_Check.f k l0_0 l0_1 l0_2 l0_3 l0_4 l0_5).bind fun t184 => (if t184 = 0 then (timing_Check.l0 k l0_2 (l0_2.length : Int) 0 l0_0 l0_1 l0_2 l0_3 l0_4 l0_5 l0_6 l0_7 l0_8 l0_9 l0_10 a0_11 l0_12 l0_13 l0_14) else (some t184))) = some r := h
 clear h
 replace H := Option.bind_eq_some_iff.mp H
 obtain ⟨t184, A20, H⟩ := H
 replace H : (if t184 = 0 then (timing_Check.l0 k l0_2 (l0_2.length : Int) 0 l0_0 l0_1 l0_2 l0_3 l0_4 l0_5 l0_6 l0_7 l0_8 l0_9 l0_10 a0_11 l0_12 l0_13 l0_14) else (some t184)) = some r := H
 have A2 := Aside0.mk A20
 clear A20
 by_cases c3 : t184 = 0
 · rw [if_pos c3] at H
   have c3b0 : (t184 == 0) = true := beq_iff_eq.mpr c3
   have c3b1 : (t184 != 0) = false := bne_eq_false_iff_eq.mpr c3
   clear c3
   have H' := Aside0.mk H
   clear H
   go_enter Tryd.func5, Tryd.ntmps5
   go_wp2_with (first | ((with_reducible refine gate_dst (N := 1) rfl ?_); refine box_event ?hg (N := 1) ?hd (cs := #[.slice A0_0 l0_0.length c0_0, .slice A0_1 l0_1.length c0_1, .slice A0_2 l0_2.length c0_2, .slice A0_3 l0_3.length c0_3, .slice A0_4 l0_4.length c0_4, .slice A0_5 l0_5.length c0_5, .slice A0_6 l0_6.length c0_6, .slice A0_7 l0_7.length c0_7, .slice A0_8 l0_8.length c0_8, .slice A0_9 l0_9.length c0_9, .slice A0_10 l0_10.length c0_10, .int .i64 a0_11, .slice A0_12 l0_12.length c0_12, .slice A0_13 l0_13.length c0_13, .slice A0_14 l0_14.length c0_14]) (t := 39) ?hr ?_; (case hd => rfl); (case hg => rfl); (case hr => first | (go_simp; done) | (go_simp; rfl)); intro gb183 hg w4 hbox hb; have BK183 := Aside0.mk (hbox); replace HB := Aside0.mk (below_step bl hb); clear hb hbox hg; obtain ⟨hcz5_0, hcz5_1, hcz5_2, hcz5_3, hcz5_4, hcz5_5, hcz5_6, hcz5_7, hcz5_8, hcz5_9, hcz5_10, hcz5_11, hcz5_12, hcz5_13, hcz5_14, hfz5_0, hfz5_1, hfz5_2, hfz5_3, hfz5_4, hfz5_5, hfz5_6, hfz5_7, hfz5_8, hfz5_9, hfz5_10, hfz5_11, hfz5_12, hfz5_13, hfz5_14⟩ := bz15 BK183.out) | ((with_reducible refine gate_callee (f := 12) rfl ?_); refine goesL_ (some 11) rfl rfl Tryd.func12 (by kernel_rfl) rfl #[.agg #[.slice A0_0 l0_0.length c0_0, .slice A0_1 l0_1.length c0_1, .slice A0_2 l0_2.length c0_2, .slice A0_3 l0_3.length c0_3, .slice A0_4 l0_4.length c0_4], .slice A0_5 l0_5.length c0_5] rfl (by (try simp only [List.map_toArray, List.map_cons, List.map_nil]); first | done | rfl | (simp only [List.length_drop, List.length_take]; rfl)) ?_; (with_reducible refine (netlist_Check.calls k _ _ l0_0 _ _ l0_1 _ _ l0_2 _ _ l0_3 _ _ l0_4 _ _ l0_5 t184 _ ?side1 ?side2 ?side3 ?side4 ?side5 ?side6 ?side7 ?side8 ?side9 ?side10 ?side11 ?side12 A2.out).mono ?_); (case side1 => exact kc (Kd.C_below HR0_0.out HB.out)); (case side2 => exact HC0_0.out); (case side3 => exact kc (Kd.C_below HR0_1.out HB.out)); (case side4 => exact HC0_1.out); (case side5 => exact kc (Kd.C_below HR0_2.out HB.out)); (case side6 => exact HC0_2.out); (case side7 => exact kc (Kd.C_below HR0_3.out HB.out)); (case side8 => exact HC0_3.out); (case side9 => exact kc (Kd.C_below HR0_4.out HB.out)); (case side10 => exact HC0_4.out); (case side11 => exact kc (Kd.C_below HR0_5.out HB.out)); (case side12 => exact HC0_5.out); rintro e w6 ⟨rfl, hb⟩; refine ⟨_, rfl, ?_⟩; replace BK183 := Aside0.mk (bb BK183.out hb); replace HB := Aside0.mk (below_step bl hb); (try clear hb); obtain ⟨hcz7_0, hcz7_1, hcz7_2, hcz7_3, hcz7_4, hcz7_5, hcz7_6, hcz7_7, hcz7_8, hcz7_9, hcz7_10, hcz7_11, hcz7_12, hcz7_13, hcz7_14, hfz7_0, hfz7_1, hfz7_2, hfz7_3, hfz7_4, hfz7_5, hfz7_6, hfz7_7, hfz7_8, hfz7_9, hfz7_10, hfz7_11, hfz7_12, hfz7_13, hfz7_14⟩ := bz15 BK183.out))
   go_loopg [19] k (fun kq v19 w' => ∃ (x19_1 : Int), v19 = .int .i64 x19_1 ∧ Aside0 (timing_Check.l0 kq l0_2 (l0_2.length : Int) x19_1 l0_0 l0_1 l0_2 l0_3 l0_4 l0_5 l0_6 l0_7 l0_8 l0_9 l0_10 a0_11 l0_12 l0_13 l0_14 = some r) ∧ Aside0 (kq ≤ k) ∧ Aside0 (w'.heap[gb183]? = some (.cells #[(.slice A0_0 l0_0.length c0_0), (.slice A0_1 l0_1.length c0_1), (.slice A0_2 l0_2.length c0_2), (.slice A0_3 l0_3.length c0_3), (.slice A0_4 l0_4.length c0_4), (.slice A0_5 l0_5.length c0_5), (.slice A0_6 l0_6.length c0_6), (.slice A0_7 l0_7.length c0_7), (.slice A0_8 l0_8.length c0_8), (.slice A0_9 l0_9.length c0_9), (.slice A0_10 l0_10.length c0_10), .int .i64 a0_11, (.slice A0_12 l0_12.length c0_12), (.slice A0_13 l0_13.length c0_13), (.slice A0_14 l0_14.length c0_14)] 39 (0, 0))) ∧ Aside0 (Below w.heap.size w w'))
   case atStart => exact ⟨(0), (by first | rfl | (simp; done) | (simp [*]; done)), H', ⟨Nat.le_refl _⟩, ⟨bk BK183.out⟩, ⟨bl⟩⟩
   case round =>
    clear H'
    clear c3b0 c3b1 hcz5_0 hcz5_1 hcz5_10 hcz5_11 hcz5_12 hcz5_13 hcz5_14 hcz5_2 hcz5_3 hcz5_4 hcz5_5 hcz5_6 hcz5_7 hcz5_8 hcz5_9 hcz7_0 hcz7_1 hcz7_10 hcz7_11 hcz7_12 hcz7_13 hcz7_14 hcz7_2 hcz7_3 hcz7_4 hcz7_5 hcz7_6 hcz7_7 hcz7_8 hcz7_9 hfz5_0 hfz5_1 hfz5_10 hfz5_11 hfz5_12 hfz5_13 hfz5_14 hfz5_2 hfz5_3 hfz5_4 hfz5_5 hfz5_6 hfz5_7 hfz5_8 hfz5_9 hfz7_0 hfz7_1 hfz7_10 hfz7_11 hfz7_12 hfz7_13 hfz7_14 hfz7_2 hfz7_3 hfz7_4 hfz7_5 hfz7_6 hfz7_7 hfz7_8 hfz7_9
    obtain ⟨x19_1, rfl, HA, HK1, BK183, HB⟩ := hrel
    cases gk with
    | zero => exact absurd HA.out (by simp [timing_Check.l0])
    | succ k1 =>
     have H := HA.out
     clear HA
     simp only [timing_Check.l0] at H
     by_cases c8 : x19_1 < (l0_2.length : Int)
     · rw [if_pos c8] at H
       have c8b0 : decide (x19_1 < (l0_2.length : Int)) = true := decide_eq_true c8
       clear c8
       by_cases c9 : 0 ≤ x19_1
       · rw [if_pos c9] at H
         have c9b0 : decide (0 ≤ x19_1) = true := decide_eq_true c9
         clear c9
         by_cases c10 : x19_1 < (l0_2.length : Int)
         · rw [if_pos c10] at H
           have c10b0 : decide (x19_1 < (l0_2.length : Int)) = true := decide_eq_true c10
           clear c10
           by_cases c11 : ((rd_T58 l0_2 x19_1).f1) < 0
           · rw [if_pos c11] at H
             have c11b0 : decide (((rd_T58 l0_2 x19_1).f1) < 0) = true := decide_eq_true c11
             clear c11
             obtain rfl := Option.some.inj H
             have p185 : 0 ≤ (x19_1 : Int) := of_decide_eq_true (by first | (with_reducible assumption) | assumption)
             have q185 : x19_1 < (l0_2.length : Int) := of_decide_eq_true (by first | (with_reducible assumption) | assumption)
             obtain ⟨ad185, e185, hx185_0, hx185_1, hx185_2, hx185_3, hx185_4⟩ := at_T58 HR0_2.out x19_1 p185 q185
             cases e185
             replace hx185_0 := hc HB.out hx185_0
             replace hx185_1 := hc HB.out hx185_1
             replace hx185_2 := hc HB.out hx185_2
             replace hx185_3 := hc HB.out hx185_3
             replace hx185_4 := hc HB.out hx185_4
             replace p185 := eq_true p185
             replace q185 := eq_true q185
             go_wp2_with ((with_reducible refine gate_dst (N := 5) rfl ?_); refine box_event ?hg (N := 5) ?hd (cs := #[.string (⟨#[]⟩ : ByteArray), .int .i64 0, .int .i64 0, .int .i64 0, .bool false]) (t := 58) ?hr ?_; (case hd => rfl); (case hg => rfl); (case hr => first | (go_simp; done) | (go_simp; rfl)); intro gb186 hg w12 hbox hb; have BK186 := Aside0.mk (hbox); have GE186 := Aside0.mk (ge (w := w) hg); replace HB := Aside0.mk (below_step bl hb); have NB183_186 := Aside0.mk (nl hg (bk BK183.out)); have NB186_183 := Aside0.mk (ng hg (bk BK183.out)); replace BK183 := Aside0.mk (bb BK183.out hb); clear hb hbox hg; obtain ⟨hcz14_0, hcz14_1, hcz14_2, hcz14_3, hcz14_4, hfz14_0, hfz14_1, hfz14_2, hfz14_3, hfz14_4⟩ := bz5 BK186.out)
             go_ret
             exact ⟨by first | rfl | (simp [errW_none, errW_some] <;> rfl) | (simp [*, errW_none, errW_some] <;> rfl), bl⟩
           · rw [if_neg c11] at H
             have c11b0 : decide (((rd_T58 l0_2 x19_1).f1) < 0) = false := decide_eq_false c11
             clear c11
             have H' := Aside0.mk H
             clear H
             have p185 : 0 ≤ (x19_1 : Int) := of_decide_eq_true (by first | (with_reducible assumption) | assumption)
             have q185 : x19_1 < (l0_2.length : Int) := of_decide_eq_true (by first | (with_reducible assumption) | assumption)
             obtain ⟨ad185, e185, hx185_0, hx185_1, hx185_2, hx185_3, hx185_4⟩ := at_T58 HR0_2.out x19_1 p185 q185
             cases e185
             replace hx185_0 := hc HB.out hx185_0
             replace hx185_1 := hc HB.out hx185_1
             replace hx185_2 := hc HB.out hx185_2
             replace hx185_3 := hc HB.out hx185_3
             replace hx185_4 := hc HB.out hx185_4
             replace p185 := eq_true p185
             replace q185 := eq_true q185
             go_wp2_with ((with_reducible refine gate_dst (N := 5) rfl ?_); refine box_event ?hg (N := 5) ?hd (cs := #[.string (⟨#[]⟩ : ByteArray), .int .i64 0, .int .i64 0, .int .i64 0, .bool false]) (t := 58) ?hr ?_; (case hd => rfl); (case hg => rfl); (case hr => first | (go_simp; done) | (go_simp; rfl)); intro gb186 hg w15 hbox hb; have BK186 := Aside0.mk (hbox); have GE186 := Aside0.mk (ge (w := w) hg); replace HB := Aside0.mk (below_step bl hb); have NB183_186 := Aside0.mk (nl hg (bk BK183.out)); have NB186_183 := Aside0.mk (ng hg (bk BK183.out)); replace BK183 := Aside0.mk (bb BK183.out hb); clear hb hbox hg; obtain ⟨hcz17_0, hcz17_1, hcz17_2, hcz17_3, hcz17_4, hfz17_0, hfz17_1, hfz17_2, hfz17_3, hfz17_4⟩ := bz5 BK186.out)
             go_roundg k1
             case measure => have := HK1.out; omega
             case rel => exact ⟨(wrap64 (x19_1 + 1)), (by first | rfl | (simp; done) | (simp [*]; done)), H', ⟨by have := HK1.out; omega⟩, ⟨bf BK183.out⟩, ⟨bl⟩⟩
         · rw [if_neg c10] at H
           exact absurd H (by simp)
       · rw [if_neg c9] at H
         exact absurd H (by simp)
     · rw [if_neg c8] at H
       have c8b0 : decide (x19_1 < (l0_2.length : Int)) = false := decide_eq_false c8
       clear c8
       replace H := Option.bind_eq_some_iff.mp H
       obtain ⟨t187, A180, H⟩ := H
       replace H : (if t187 = 0 then ((clocks_CheckFor.f k1 a0_11 l0_12 l0_13 l0_14 l0_0 l0_1 l0_2 l0_3 l0_4).bind fun t188 => (some t188)) else (some t187)) = some r := H
       have A18 := Aside0.mk A180
       clear A180
       by_cases c19 : t187 = 0
       · rw [if_pos c19] at H
         have c19b1 : (t187 != 0) = false := bne_eq_false_iff_eq.mpr c19
         clear c19
         replace H := Option.bind_eq_some_iff.mp H
         obtain ⟨t188, A200, H⟩ := H
         replace H : (some t188) = some r := H
         have A20 := Aside0.mk A200
         clear A200
         obtain rfl := Option.some.inj H
         obtain ⟨hcz21_0, hcz21_1, hcz21_2, hcz21_3, hcz21_4, hcz21_5, hcz21_6, hcz21_7, hcz21_8, hcz21_9, hcz21_10, hcz21_11, hcz21_12, hcz21_13, hcz21_14, hfz21_0, hfz21_1, hfz21_2, hfz21_3, hfz21_4, hfz21_5, hfz21_6, hfz21_7, hfz21_8, hfz21_9, hfz21_10, hfz21_11, hfz21_12, hfz21_13, hfz21_14⟩ := bz15 BK183.out
         go_wp2_with (first | ((with_reducible refine gate_callee (f := 13) rfl ?_); refine goesL_ (some 31) rfl rfl Tryd.func13 (by kernel_rfl) rfl #[.agg #[.slice A0_0 l0_0.length c0_0, .slice A0_1 l0_1.length c0_1, .slice A0_2 l0_2.length c0_2, .slice A0_3 l0_3.length c0_3, .slice A0_4 l0_4.length c0_4], .agg #[.slice A0_6 l0_6.length c0_6, .slice A0_7 l0_7.length c0_7, .slice A0_8 l0_8.length c0_8, .slice A0_9 l0_9.length c0_9, .slice A0_10 l0_10.length c0_10]] rfl (by (try simp only [List.map_toArray, List.map_cons, List.map_nil]); first | done | rfl | (simp only [List.length_drop, List.length_take]; rfl)) ?_; (with_reducible refine (delay_Check.calls k1 _ _ l0_0 _ _ l0_1 _ _ l0_2 _ _ l0_3 _ _ l0_4 _ _ l0_6 _ _ l0_7 _ _ l0_8 _ _ l0_9 _ _ l0_10 t187 _ ?side1 ?side2 ?side3 ?side4 ?side5 ?side6 ?side7 ?side8 ?side9 ?side10 ?side11 ?side12 ?side13 ?side14 ?side15 ?side16 ?side17 ?side18 ?side19 ?side20 A18.out).mono ?_); (case side1 => exact kc (Kd.C_below HR0_0.out HB.out)); (case side2 => exact HC0_0.out); (case side3 => exact kc (Kd.C_below HR0_1.out HB.out)); (case side4 => exact HC0_1.out); (case side5 => exact kc (Kd.C_below HR0_2.out HB.out)); (case side6 => exact HC0_2.out); (case side7 => exact kc (Kd.C_below HR0_3.out HB.out)); (case side8 => exact HC0_3.out); (case side9 => exact kc (Kd.C_below HR0_4.out HB.out)); (case side10 => exact HC0_4.out); (case side11 => exact kc (Kd.C_below HR0_6.out HB.out)); (case side12 => exact HC0_6.out); (case side13 => exact kc (Kd.C_below HR0_7.out HB.out)); (case side14 => exact HC0_7.out); (case side15 => exact kc (Kd.C_below HR0_8.out HB.out)); (case side16 => exact HC0_8.out); (case side17 => exact kc (Kd.C_below HR0_9.out HB.out)); (case side18 => exact HC0_9.out); (case side19 => exact kc (Kd.C_below HR0_10.out HB.out)); (case side20 => exact HC0_10.out); rintro e w22 ⟨rfl, hb⟩; refine ⟨_, rfl, ?_⟩; replace BK183 := Aside0.mk (bb BK183.out hb); replace HB := Aside0.mk (below_step bl hb); (try clear hb); obtain ⟨hcz23_0, hcz23_1, hcz23_2, hcz23_3, hcz23_4, hcz23_5, hcz23_6, hcz23_7, hcz23_8, hcz23_9, hcz23_10, hcz23_11, hcz23_12, hcz23_13, hcz23_14, hfz23_0, hfz23_1, hfz23_2, hfz23_3, hfz23_4, hfz23_5, hfz23_6, hfz23_7, hfz23_8, hfz23_9, hfz23_10, hfz23_11, hfz23_12, hfz23_13, hfz23_14⟩ := bz15 BK183.out) | ((with_reducible refine gate_callee (f := 14) rfl ?_); refine goesL_ (some 39) rfl rfl Tryd.func14 (by kernel_rfl) rfl #[.agg #[.int .i64 a0_11, .slice A0_12 l0_12.length c0_12, .slice A0_13 l0_13.length c0_13, .slice A0_14 l0_14.length c0_14], .agg #[.slice A0_0 l0_0.length c0_0, .slice A0_1 l0_1.length c0_1, .slice A0_2 l0_2.length c0_2, .slice A0_3 l0_3.length c0_3, .slice A0_4 l0_4.length c0_4]] rfl (by (try simp only [List.map_toArray, List.map_cons, List.map_nil]); first | done | rfl | (simp only [List.length_drop, List.length_take]; rfl)) ?_; (with_reducible refine (clocks_CheckFor.calls k1 a0_11 _ _ l0_12 _ _ l0_13 _ _ l0_14 _ _ l0_0 _ _ l0_1 _ _ l0_2 _ _ l0_3 _ _ l0_4 t188 _ ?side1 ?side2 ?side3 ?side4 ?side5 ?side6 ?side7 ?side8 ?side9 ?side10 ?side11 ?side12 ?side13 ?side14 ?side15 ?side16 A20.out ?sideT).mono ?_); (case sideT => exact HTA.out _ (by repeat (first | exact HB.out | (with_reducible refine below_alloc ?_ _) | (with_reducible refine pw_below_drewN ?_ _) | (with_reducible refine below_drew1 ?_)))); (case side1 => exact kc (Kd.C_below HR0_12.out HB.out)); (case side2 => exact HC0_12.out); (case side3 => exact kc (Kd.C_below HR0_13.out HB.out)); (case side4 => exact HC0_13.out); (case side5 => exact kc (Kd.C_below HR0_14.out HB.out)); (case side6 => exact HC0_14.out); (case side7 => exact kc (Kd.C_below HR0_0.out HB.out)); (case side8 => exact HC0_0.out); (case side9 => exact kc (Kd.C_below HR0_1.out HB.out)); (case side10 => exact HC0_1.out); (case side11 => exact kc (Kd.C_below HR0_2.out HB.out)); (case side12 => exact HC0_2.out); (case side13 => exact kc (Kd.C_below HR0_3.out HB.out)); (case side14 => exact HC0_3.out); (case side15 => exact kc (Kd.C_below HR0_4.out HB.out)); (case side16 => exact HC0_4.out); rintro e w24 ⟨rfl, hb⟩; refine ⟨_, rfl, ?_⟩; replace BK183 := Aside0.mk (bb BK183.out hb); replace HB := Aside0.mk (below_step bl hb); (try clear hb)))
         go_ret
         exact ⟨by first | rfl | (simp [errW_none, errW_some] <;> rfl) | (simp [*, errW_none, errW_some] <;> rfl), bl⟩
       · rw [if_neg c19] at H
         have c19b1 : (t187 != 0) = true := bne_iff_ne.mpr c19
         obtain rfl := Option.some.inj H
         obtain ⟨hcz25_0, hcz25_1, hcz25_2, hcz25_3, hcz25_4, hcz25_5, hcz25_6, hcz25_7, hcz25_8, hcz25_9, hcz25_10, hcz25_11, hcz25_12, hcz25_13, hcz25_14, hfz25_0, hfz25_1, hfz25_2, hfz25_3, hfz25_4, hfz25_5, hfz25_6, hfz25_7, hfz25_8, hfz25_9, hfz25_10, hfz25_11, hfz25_12, hfz25_13, hfz25_14⟩ := bz15 BK183.out
         go_wp2_with ((with_reducible refine gate_callee (f := 13) rfl ?_); refine goesL_ (some 31) rfl rfl Tryd.func13 (by kernel_rfl) rfl #[.agg #[.slice A0_0 l0_0.length c0_0, .slice A0_1 l0_1.length c0_1, .slice A0_2 l0_2.length c0_2, .slice A0_3 l0_3.length c0_3, .slice A0_4 l0_4.length c0_4], .agg #[.slice A0_6 l0_6.length c0_6, .slice A0_7 l0_7.length c0_7, .slice A0_8 l0_8.length c0_8, .slice A0_9 l0_9.length c0_9, .slice A0_10 l0_10.length c0_10]] rfl (by (try simp only [List.map_toArray, List.map_cons, List.map_nil]); first | done | rfl | (simp only [List.length_drop, List.length_take]; rfl)) ?_; (with_reducible refine (delay_Check.calls k1 _ _ l0_0 _ _ l0_1 _ _ l0_2 _ _ l0_3 _ _ l0_4 _ _ l0_6 _ _ l0_7 _ _ l0_8 _ _ l0_9 _ _ l0_10 t187 _ ?side1 ?side2 ?side3 ?side4 ?side5 ?side6 ?side7 ?side8 ?side9 ?side10 ?side11 ?side12 ?side13 ?side14 ?side15 ?side16 ?side17 ?side18 ?side19 ?side20 A18.out).mono ?_); (case side1 => exact kc (Kd.C_below HR0_0.out HB.out)); (case side2 => exact HC0_0.out); (case side3 => exact kc (Kd.C_below HR0_1.out HB.out)); (case side4 => exact HC0_1.out); (case side5 => exact kc (Kd.C_below HR0_2.out HB.out)); (case side6 => exact HC0_2.out); (case side7 => exact kc (Kd.C_below HR0_3.out HB.out)); (case side8 => exact HC0_3.out); (case side9 => exact kc (Kd.C_below HR0_4.out HB.out)); (case side10 => exact HC0_4.out); (case side11 => exact kc (Kd.C_below HR0_6.out HB.out)); (case side12 => exact HC0_6.out); (case side13 => exact kc (Kd.C_below HR0_7.out HB.out)); (case side14 => exact HC0_7.out); (case side15 => exact kc (Kd.C_below HR0_8.out HB.out)); (case side16 => exact HC0_8.out); (case side17 => exact kc (Kd.C_below HR0_9.out HB.out)); (case side18 => exact HC0_9.out); (case side19 => exact kc (Kd.C_below HR0_10.out HB.out)); (case side20 => exact HC0_10.out); rintro e w26 ⟨rfl, hb⟩; refine ⟨_, rfl, ?_⟩; replace BK183 := Aside0.mk (bb BK183.out hb); replace HB := Aside0.mk (below_step bl hb); (try clear hb))
         go_ret
         exact ⟨by first | rfl | (simp [errW_none, errW_some] <;> rfl) | (simp [*, errW_none, errW_some] <;> rfl), bl⟩
 · rw [if_neg c3] at H
   have c3b1 : (t184 != 0) = true := bne_iff_ne.mpr c3
   obtain rfl := Option.some.inj H
   go_enter Tryd.func5, Tryd.ntmps5
   go_wp2_with (first | ((with_reducible refine gate_dst (N := 1) rfl ?_); refine box_event ?hg (N := 1) ?hd (cs := #[.slice A0_0 l0_0.length c0_0, .slice A0_1 l0_1.length c0_1, .slice A0_2 l0_2.length c0_2, .slice A0_3 l0_3.length c0_3, .slice A0_4 l0_4.length c0_4, .slice A0_5 l0_5.length c0_5, .slice A0_6 l0_6.length c0_6, .slice A0_7 l0_7.length c0_7, .slice A0_8 l0_8.length c0_8, .slice A0_9 l0_9.length c0_9, .slice A0_10 l0_10.length c0_10, .int .i64 a0_11, .slice A0_12 l0_12.length c0_12, .slice A0_13 l0_13.length c0_13, .slice A0_14 l0_14.length c0_14]) (t := 39) ?hr ?_; (case hd => rfl); (case hg => rfl); (case hr => first | (go_simp; done) | (go_simp; rfl)); intro gb183 hg w27 hbox hb; have BK183 := Aside0.mk (hbox); replace HB := Aside0.mk (below_step bl hb); clear hb hbox hg; obtain ⟨hcz28_0, hcz28_1, hcz28_2, hcz28_3, hcz28_4, hcz28_5, hcz28_6, hcz28_7, hcz28_8, hcz28_9, hcz28_10, hcz28_11, hcz28_12, hcz28_13, hcz28_14, hfz28_0, hfz28_1, hfz28_2, hfz28_3, hfz28_4, hfz28_5, hfz28_6, hfz28_7, hfz28_8, hfz28_9, hfz28_10, hfz28_11, hfz28_12, hfz28_13, hfz28_14⟩ := bz15 BK183.out) | ((with_reducible refine gate_callee (f := 12) rfl ?_); refine goesL_ (some 11) rfl rfl Tryd.func12 (by kernel_rfl) rfl #[.agg #[.slice A0_0 l0_0.length c0_0, .slice A0_1 l0_1.length c0_1, .slice A0_2 l0_2.length c0_2, .slice A0_3 l0_3.length c0_3, .slice A0_4 l0_4.length c0_4], .slice A0_5 l0_5.length c0_5] rfl (by (try simp only [List.map_toArray, List.map_cons, List.map_nil]); first | done | rfl | (simp only [List.length_drop, List.length_take]; rfl)) ?_; (with_reducible refine (netlist_Check.calls k _ _ l0_0 _ _ l0_1 _ _ l0_2 _ _ l0_3 _ _ l0_4 _ _ l0_5 t184 _ ?side1 ?side2 ?side3 ?side4 ?side5 ?side6 ?side7 ?side8 ?side9 ?side10 ?side11 ?side12 A2.out).mono ?_); (case side1 => exact kc (Kd.C_below HR0_0.out HB.out)); (case side2 => exact HC0_0.out); (case side3 => exact kc (Kd.C_below HR0_1.out HB.out)); (case side4 => exact HC0_1.out); (case side5 => exact kc (Kd.C_below HR0_2.out HB.out)); (case side6 => exact HC0_2.out); (case side7 => exact kc (Kd.C_below HR0_3.out HB.out)); (case side8 => exact HC0_3.out); (case side9 => exact kc (Kd.C_below HR0_4.out HB.out)); (case side10 => exact HC0_4.out); (case side11 => exact kc (Kd.C_below HR0_5.out HB.out)); (case side12 => exact HC0_5.out); rintro e w29 ⟨rfl, hb⟩; refine ⟨_, rfl, ?_⟩; replace BK183 := Aside0.mk (bb BK183.out hb); replace HB := Aside0.mk (below_step bl hb); (try clear hb)))
   go_ret
   exact ⟨by first | rfl | (simp [errW_none, errW_some] <;> rfl) | (simp [*, errW_none, errW_some] <;> rfl), bl⟩

end Go.Proofs.YtlegjcagkmjfjaaDoor.PT
namespace Go.Proofs.YtlegjcagkmjfjaaDoor.PT
open Go.RowKit Go.Proofs.YtlegjcagkmjfjaaDoorW.PrintWords Go.Proofs.YtlegjcagkmjfjaaDoorW.PrintLast Go.Proofs.YtlegjcagkmjfjaaDoorW.PrintMore
attribute [local go_sem] max2_int min2_int max_two min_two max_three min_three max_four min_four   -- for this text's walks alone
set_option linter.unusedVariables false
set_option linter.unusedSimpArgs false

/-! ### timing_Starts: function 7 -/
def timing_Starts.f (l0_0 : List ByteArray) (l0_1 : List ByteArray) (l0_2 : List (S58)) (l0_3 : List (S72)) (l0_4 : List Int) : Option (Int) := some (wrap64 ((l0_0.length : Int) + (l0_2.length : Int)))
set_option maxHeartbeats 8000000 in
set_option maxRecDepth 100000 in
theorem timing_Starts.calls (A0_0 : Option Addr) (c0_0 : Nat) (l0_0 : List ByteArray) (A0_1 : Option Addr) (c0_1 : Nat) (l0_1 : List ByteArray) (A0_2 : Option Addr) (c0_2 : Nat) (l0_2 : List (S58)) (A0_3 : Option Addr) (c0_3 : Nat) (l0_3 : List (S72)) (A0_4 : Option Addr) (c0_4 : Nat) (l0_4 : List Int) (r : Int) (w : World) (hr0_0 : Kd.C Kd.string w A0_0 l0_0.length l0_0) (hc0_0 : l0_0.length ≤ c0_0) (hr0_1 : Kd.C Kd.string w A0_1 l0_1.length l0_1) (hc0_1 : l0_1.length ≤ c0_1) (hr0_2 : Kd.C k58 w A0_2 l0_2.length l0_2) (hc0_2 : l0_2.length ≤ c0_2) (hr0_3 : Kd.C k72 w A0_3 l0_3.length l0_3) (hc0_3 : l0_3.length ≤ c0_3) (hr0_4 : Kd.C (Kd.int .i64) w A0_4 l0_4.length l0_4) (hc0_4 : l0_4.length ≤ c0_4) (h : timing_Starts.f l0_0 l0_1 l0_2 l0_3 l0_4 = some r) :
    Calls Tryd.prog 7 #[.agg #[.slice A0_0 l0_0.length c0_0, .slice A0_1 l0_1.length c0_1, .slice A0_2 l0_2.length c0_2, .slice A0_3 l0_3.length c0_3, .slice A0_4 l0_4.length c0_4]] w fun e w' => e = .returned (.int .i64 r) ∧ Below w.heap.size w w' := by
  have hu27 := Tryd.underlying27
  have HR0_0 := Aside0.mk hr0_0
  have HC0_0 := Aside0.mk hc0_0
  clear hr0_0 hc0_0
  have HR0_1 := Aside0.mk hr0_1
  have HC0_1 := Aside0.mk hc0_1
  clear hr0_1 hc0_1
  have HR0_2 := Aside0.mk hr0_2
  have HC0_2 := Aside0.mk hc0_2
  clear hr0_2 hc0_2
  have HR0_3 := Aside0.mk hr0_3
  have HC0_3 := Aside0.mk hc0_3
  clear hr0_3 hc0_3
  have HR0_4 := Aside0.mk hr0_4
  have HC0_4 := Aside0.mk hc0_4
  clear hr0_4 hc0_4
  have HB := Aside0.mk (Below.refl w.heap.size w)
  have H : (some (wrap64 ((l0_0.length : Int) + (l0_2.length : Int)))) = some r := h
  clear h
  obtain rfl := Option.some.inj H
  go_enter Tryd.func7, Tryd.ntmps7
  go_wp2_with (first | ((with_reducible refine gate_dst (N := 1) rfl ?_); refine box_event ?hg (N := 1) ?hd (cs := #[.slice A0_0 l0_0.length c0_0, .slice A0_1 l0_1.length c0_1, .slice A0_2 l0_2.length c0_2, .slice A0_3 l0_3.length c0_3, .slice A0_4 l0_4.length c0_4]) (t := 27) ?hr ?_; (case hd => rfl); (case hg => rfl); (case hr => first | (go_simp; done) | (go_simp; rfl)); intro gb189 hg w2 hbox hb; have n0_ := Aside0.mk (below_step (by repeat (first | (with_reducible first | exact HB.out | apply below_alloc | apply pw_below_drewN | apply below_drew1) | exact HB.out)) hb); have n1_ := Aside0.mk (hbox); have n2_ := Aside0.mk ((by rw [hg]; exact (below_size (by repeat (first | (with_reducible first | exact HB.out | apply below_alloc | apply pw_below_drewN | apply below_drew1) | exact HB.out))) : w.heap.size ≤ gb189)); have n3_ := Aside0.mk ((by rw [hg]; exact (below_size (by repeat (first | (with_reducible first | exact HB.out | apply below_alloc | apply pw_below_drewN | apply below_drew1) | exact HB.out))) : w.heap.size ≤ gb189)); clear HB; have HB := n0_; have BK189 := n1_; have GW189 := n2_; have GE189 := n3_; clear n0_ n1_ n2_ n3_; clear hb hbox hg; have hcz3_0 : w2.cell? ⟨gb189, 0, none⟩ = some (.slice A0_0 l0_0.length c0_0) := (blk_cell BK189.out 0).trans rfl; have hcz3_1 : w2.cell? ⟨gb189, 1, none⟩ = some (.slice A0_1 l0_1.length c0_1) := (blk_cell BK189.out 1).trans rfl; have hcz3_2 : w2.cell? ⟨gb189, 2, none⟩ = some (.slice A0_2 l0_2.length c0_2) := (blk_cell BK189.out 2).trans rfl; have hcz3_3 : w2.cell? ⟨gb189, 3, none⟩ = some (.slice A0_3 l0_3.length c0_3) := (blk_cell BK189.out 3).trans rfl; have hcz3_4 : w2.cell? ⟨gb189, 4, none⟩ = some (.slice A0_4 l0_4.length c0_4) := (blk_cell BK189.out 4).trans rfl; have hfz3_0 := blk_frozen BK189.out 0; have hfz3_1 := blk_frozen BK189.out 1; have hfz3_2 := blk_frozen BK189.out 2; have hfz3_3 := blk_frozen BK189.out 3; have hfz3_4 := blk_frozen BK189.out 4))
  go_ret
  exact ⟨by first | rfl | (simp [errW_none, errW_some] <;> rfl) | (simp [*, errW_none, errW_some] <;> rfl), by repeat (first | (with_reducible first | exact HB.out | apply below_alloc | apply pw_below_drewN | apply below_drew1 | refine below_set ?_ GE189.out) | exact HB.out)⟩

end Go.Proofs.YtlegjcagkmjfjaaDoor.PT
namespace Go.Proofs.YtlegjcagkmjfjaaDoor.PT
open Go.RowKit Go.Proofs.YtlegjcagkmjfjaaDoorW.PrintWords Go.Proofs.YtlegjcagkmjfjaaDoorW.PrintLast Go.Proofs.YtlegjcagkmjfjaaDoorW.PrintMore
attribute [local go_sem] max2_int min2_int max_two min_two max_three min_three max_four min_four   -- for this text's walks alone
set_option linter.unusedVariables false
set_option linter.unusedSimpArgs false

/-! ### timing_Ends: function 9 -/
mutual
def timing_Ends.l0 : Nat → List (S49) → List (S58) → Int → Int → List ByteArray → List ByteArray → List (S58) → List (S72) → List Int → Option ((List (S49)))
 | 0, _, _, _, _, _, _, _, _, _ => none
 | k + 1, x3, x9, x10, x11, x191000, x191001, x191002, x191003, x191004 => if x11 < x10 then (if 0 ≤ x11 then (if x11 < (x9.length : Int) then ((delay_Inputs.f ((rd_T58 x9 x11).f0) ((rd_T58 x9 x11).f1) ((rd_T58 x9 x11).f2) ((rd_T58 x9 x11).f3) ((rd_T58 x9 x11).f4)).bind fun t193 => (timing_Ends.l1 k x3 x11 x9 x10 x11 t193 0 x191000 x191001 x191002 x191003 x191004)) else (none)) else (none)) else (timing_Ends.l2 k x3 (x191004.length : Int) 0)
def timing_Ends.l1 : Nat → List (S49) → Int → List (S58) → Int → Int → Int → Int → List ByteArray → List ByteArray → List (S58) → List (S72) → List Int → Option ((List (S49)))
 | 0, _, _, _, _, _, _, _, _, _, _, _, _ => none
 | k + 1, x3, x4, x9, x10, x11, x17, x18, x191000, x191001, x191002, x191003, x191004 => if x18 < x17 then (if x3.length < 2199023255552 then (timing_Ends.l1 k (x3 ++ [(⟨x4, x18, (⟨false, 0, 0⟩ : S47), (⟨false, 0, 0⟩ : S47)⟩ : S49)]) x4 x9 x10 x11 x17 (wrap64 (x18 + 1)) x191000 x191001 x191002 x191003 x191004) else (none)) else (timing_Ends.l0 k x3 x9 x10 (wrap64 (x11 + 1)) x191000 x191001 x191002 x191003 x191004)
def timing_Ends.l2 : Nat → List (S49) → Int → Int → Option ((List (S49)))
 | 0, _, _, _ => none
 | k + 1, x3, x31, x32 => if x32 < x31 then (if x3.length < 2199023255552 then (timing_Ends.l2 k (x3 ++ [(⟨(-1), x32, (⟨false, 0, 0⟩ : S47), (⟨false, 0, 0⟩ : S47)⟩ : S49)]) x31 (wrap64 (x32 + 1))) else (none)) else (some x3)
end
def timing_Ends.f (k : Nat) (l0_0 : List ByteArray) (l0_1 : List ByteArray) (l0_2 : List (S58)) (l0_3 : List (S72)) (l0_4 : List Int) : Option ((List (S49))) := timing_Ends.l0 k ([] : List (S49)) l0_2 (l0_2.length : Int) 0 l0_0 l0_1 l0_2 l0_3 l0_4
theorem timing_Ends.mono_l : ∀ k, (∀ y0 y1 y2 y3 y4 y5 y6 y7 y8, LeO (timing_Ends.l0 k y0 y1 y2 y3 y4 y5 y6 y7 y8) (timing_Ends.l0 (k + 1) y0 y1 y2 y3 y4 y5 y6 y7 y8)) ∧ (∀ y0 y1 y2 y3 y4 y5 y6 y7 y8 y9 y10 y11, LeO (timing_Ends.l1 k y0 y1 y2 y3 y4 y5 y6 y7 y8 y9 y10 y11) (timing_Ends.l1 (k + 1) y0 y1 y2 y3 y4 y5 y6 y7 y8 y9 y10 y11)) ∧ (∀ y0 y1 y2, LeO (timing_Ends.l2 k y0 y1 y2) (timing_Ends.l2 (k + 1) y0 y1 y2))
 | 0 => ⟨fun _ _ _ _ _ _ _ _ _ r h => by simp [timing_Ends.l0] at h, fun _ _ _ _ _ _ _ _ _ _ _ _ r h => by simp [timing_Ends.l1] at h, fun _ _ _ r h => by simp [timing_Ends.l2] at h⟩
 | k + 1 => by
  obtain ⟨ih0, ih1, ih2⟩ := timing_Ends.mono_l k
  refine ⟨?_, ?_, ?_⟩
  · intro y0 y1 y2 y3 y4 y5 y6 y7 y8
    unfold timing_Ends.l0
    repeat' first
    | (with_reducible exact ih1 _ _ _ _ _ _ _ _ _ _ _ _)
    | (with_reducible exact ih2 _ _ _)
    | (with_reducible exact LeO.refl _)
    | (with_reducible exact LeO.none _)
    | (with_reducible refine LeO.ite ?_ ?_)
    | (with_reducible refine LeO.bind ?_ (fun _ => ?_))
  · intro y0 y1 y2 y3 y4 y5 y6 y7 y8 y9 y10 y11
    unfold timing_Ends.l1
    repeat' first
    | (with_reducible exact ih0 _ _ _ _ _ _ _ _ _)
    | (with_reducible exact ih1 _ _ _ _ _ _ _ _ _ _ _ _)
    | (with_reducible exact LeO.refl _)
    | (with_reducible exact LeO.none _)
    | (with_reducible refine LeO.ite ?_ ?_)
    | (with_reducible refine LeO.bind ?_ (fun _ => ?_))
  · intro y0 y1 y2
    unfold timing_Ends.l2
    repeat' first
    | (with_reducible exact ih2 _ _ _)
    | (with_reducible exact LeO.refl _)
    | (with_reducible exact LeO.none _)
    | (with_reducible refine LeO.ite ?_ ?_)
    | (with_reducible refine LeO.bind ?_ (fun _ => ?_))
theorem timing_Ends.mono : ∀ a0 a1 a2 a3 a4 k, LeO (timing_Ends.f k a0 a1 a2 a3 a4) (timing_Ends.f (k + 1) a0 a1 a2 a3 a4) := by
 intro a0 a1 a2 a3 a4 k
 obtain ⟨ih0, ih1, ih2⟩ := timing_Ends.mono_l k
 unfold timing_Ends.f
 repeat' first
  | (with_reducible exact ih0 _ _ _ _ _ _ _ _ _)
  | (with_reducible exact LeO.refl _)
  | (with_reducible exact LeO.none _)
  | (with_reducible refine LeO.ite ?_ ?_)
  | (with_reducible refine LeO.bind ?_ (fun _ => ?_))
set_option maxHeartbeats 8000000 in
set_option maxRecDepth 100000 in
theorem timing_Ends.calls (k : Nat) (A0_0 : Option Addr) (c0_0 : Nat) (l0_0 : List ByteArray) (A0_1 : Option Addr) (c0_1 : Nat) (l0_1 : List ByteArray) (A0_2 : Option Addr) (c0_2 : Nat) (l0_2 : List (S58)) (A0_3 : Option Addr) (c0_3 : Nat) (l0_3 : List (S72)) (A0_4 : Option Addr) (c0_4 : Nat) (l0_4 : List Int) (r : List (S49)) (w : World) (hr0_0 : Kd.C Kd.string w A0_0 l0_0.length l0_0) (hc0_0 : l0_0.length ≤ c0_0) (hr0_1 : Kd.C Kd.string w A0_1 l0_1.length l0_1) (hc0_1 : l0_1.length ≤ c0_1) (hr0_2 : Kd.C k58 w A0_2 l0_2.length l0_2) (hc0_2 : l0_2.length ≤ c0_2) (hr0_3 : Kd.C k72 w A0_3 l0_3.length l0_3) (hc0_3 : l0_3.length ≤ c0_3) (hr0_4 : Kd.C (Kd.int .i64) w A0_4 l0_4.length l0_4) (hc0_4 : l0_4.length ≤ c0_4) (h : timing_Ends.f k l0_0 l0_1 l0_2 l0_3 l0_4 = some r) :
 Calls Tryd.prog 9 #[.agg #[.slice A0_0 l0_0.length c0_0, .slice A0_1 l0_1.length c0_1, .slice A0_2 l0_2.length c0_2, .slice A0_3 l0_3.length c0_3, .slice A0_4 l0_4.length c0_4]] w fun e w' => ∃ v0_ : Value, e = .returned (v0_) ∧ Kd.R k49 49 w' w.heap.size (fun _ => True) v0_ r ∧ Below w.heap.size w w' := by
 clear hr0_0 hc0_0
 clear hr0_1 hc0_1
 have HR0_2 := Aside0.mk hr0_2
 clear hr0_2 hc0_2
 clear hr0_3 hc0_3
 clear hr0_4 hc0_4
 have HB := Aside0.mk (Below.refl w.heap.size w)
 have H : (timing_Ends.l0 k ([] : List (S49)) l0_2 (l0_2.length : Int) 0 l0_0 l0_1 l0_2 l0_3 l0_4) = some r := h
 clear h
 have H' := Aside0.mk H
 clear H
 go_enter Tryd.func9, Tryd.ntmps9
 go_wp2_with ((with_reducible refine gate_dst (N := 1) rfl ?_); refine box_event ?hg (N := 1) ?hd (cs := #[.slice A0_0 l0_0.length c0_0, .slice A0_1 l0_1.length c0_1, .slice A0_2 l0_2.length c0_2, .slice A0_3 l0_3.length c0_3, .slice A0_4 l0_4.length c0_4]) (t := 27) ?hr ?_; (case hd => rfl); (case hg => rfl); (case hr => first | (go_simp; done) | (go_simp; rfl)); intro gb190 hg w2 hbox hb; have n0_ := Aside0.mk (below_step bl hb); have n1_ := Aside0.mk (hbox); have n2_ := Aside0.mk (ge (w := w) hg); have n3_ := Aside0.mk (ge (w := w) hg); clear HB; have HB := n0_; have BK190 := n1_; have GE190 := n3_; clear n0_ n1_ n2_ n3_; clear hb hbox hg; obtain ⟨hcz3_0, hcz3_1, hcz3_2, hcz3_3, hcz3_4, hfz3_0, hfz3_1, hfz3_2, hfz3_3, hfz3_4⟩ := bz5 BK190.out)
 go_loopg [3, 11] k (fun kq v3 v11 w' => ∃ (x3_1 : List (S49)) (x11_1 : Int), v11 = .int .i64 x11_1 ∧ Aside0 (timing_Ends.l0 kq x3_1 l0_2 (l0_2.length : Int) x11_1 l0_0 l0_1 l0_2 l0_3 l0_4 = some r) ∧ Aside0 (kq ≤ k) ∧ Aside0 (Kd.R k49 49 w' w.heap.size (fun _ => True) v3 x3_1) ∧ Aside0 (w'.heap[gb190]? = some (.cells #[(.slice A0_0 l0_0.length c0_0), (.slice A0_1 l0_1.length c0_1), (.slice A0_2 l0_2.length c0_2), (.slice A0_3 l0_3.length c0_3), (.slice A0_4 l0_4.length c0_4)] 27 (0, 0))) ∧ Aside0 (Below w.heap.size w w'))
 case atStart => exact ⟨(([] : List (S49))), (0), (by first | rfl | (simp; done) | (simp [*]; done)), H', ⟨Nat.le_refl _⟩, ⟨by first | exact Kd.R_nil _ _ _ _ _ | exact Kd.N_nil _ _ _ _ _ | exact Kd.V_nil _ _ _ _ _ | exact Kd.Q_nil _ _ _ _ _ | exact Kd.S_nil _ _ _ _ _⟩, ⟨bk BK190.out⟩, ⟨bl⟩⟩
 clear H'
 clear hcz3_0 hcz3_1 hcz3_2 hcz3_3 hcz3_4 hfz3_0 hfz3_1 hfz3_2 hfz3_3 hfz3_4
 obtain ⟨x3_1, x11_1, rfl, HA, HK1, HO_3, BK190, HB⟩ := hrel
 cases gk with
 | zero => exact absurd HA.out (by simp [timing_Ends.l0])
 | succ k1 =>
  have H := HA.out
  clear HA
  simp only [timing_Ends.l0] at H
  by_cases c4 : x11_1 < (l0_2.length : Int)
  rotate_left
  · rw [if_neg c4] at H
    have c4b0 : decide (x11_1 < (l0_2.length : Int)) = false := decide_eq_false c4
    clear c4
    have H' := Aside0.mk H
    clear H
    obtain ⟨hcz15_0, hcz15_1, hcz15_2, hcz15_3, hcz15_4, hfz15_0, hfz15_1, hfz15_2, hfz15_3, hfz15_4⟩ := bz5 BK190.out
    go_wp2
    go_loopg [3, 32] k1 (fun kq v3 v32 w' => ∃ (x3_2 : List (S49)) (x32_2 : Int), v32 = .int .i64 x32_2 ∧ Aside0 (timing_Ends.l2 kq x3_2 (l0_4.length : Int) x32_2 = some r) ∧ Aside0 (kq ≤ k1) ∧ Aside0 (Kd.R k49 49 w' w.heap.size (fun _ => True) v3 x3_2) ∧ Aside0 (w'.heap[gb190]? = some (.cells #[(.slice A0_0 l0_0.length c0_0), (.slice A0_1 l0_1.length c0_1), (.slice A0_2 l0_2.length c0_2), (.slice A0_3 l0_3.length c0_3), (.slice A0_4 l0_4.length c0_4)] 27 (0, 0))) ∧ Aside0 (Below w.heap.size w w'))
    case atStart => exact ⟨(x3_1), (0), (by first | rfl | (simp; done) | (simp [*]; done)), H', ⟨Nat.le_refl _⟩, ⟨by (with_reducible repeat (first | apply Kd.R_alloc | apply Kd.R_drewN | apply Kd.R_drew)); exact HO_3.out⟩, ⟨bk BK190.out⟩, ⟨bl⟩⟩
    clear H'
    clear c4b0 hcz15_0 hcz15_1 hcz15_2 hcz15_3 hcz15_4 hfz15_0 hfz15_1 hfz15_2 hfz15_3 hfz15_4
    obtain ⟨x3_2, x32_2, rfl, HA, HK2, HO_3, BK190, HB⟩ := hrel
    cases gk with
    | zero => exact absurd HA.out (by simp [timing_Ends.l2])
    | succ k2 =>
     have H := HA.out
     clear HA
     simp only [timing_Ends.l2] at H
     by_cases c16 : x32_2 < (l0_4.length : Int)
     rotate_left
     · rw [if_neg c16] at H
       have c16b0 : decide (x32_2 < (l0_4.length : Int)) = false := decide_eq_false c16
       clear c16
       obtain rfl := Option.some.inj H
       go_wp2
       go_ret
       exact ⟨_, by first | rfl | (simp [errW_none, errW_some] <;> rfl) | (simp [*, errW_none, errW_some] <;> rfl), by (with_reducible repeat (first | apply Kd.R_alloc | apply Kd.R_drewN | apply Kd.R_drew)); exact HO_3.out, bl⟩
     rw [if_pos c16] at H
     have c16b0 : decide (x32_2 < (l0_4.length : Int)) = true := decide_eq_true c16
     clear c16
     by_cases c17 : x3_2.length < 2199023255552
     rotate_left
     · rw [if_neg c17] at H
       exact absurd H (by simp)
     rw [if_pos c17] at H
     have LMc17 := Aside0.mk c17
     clear c17
     obtain ⟨y197, hy197⟩ : ∃ y_ : List (S49), y_ = (x3_2 ++ [(⟨(-1), x32_2, (⟨false, 0, 0⟩ : S47), (⟨false, 0, 0⟩ : S47)⟩ : S49)]) := ⟨_, rfl⟩
     replace H : (timing_Ends.l2 k2 y197 (l0_4.length : Int) (wrap64 (x32_2 + 1))) = some r := by first | (rw [hy197]; with_reducible exact H) | (have H2_ := (Option.bind_some _ _).symm.trans H; rw [hy197]; with_reducible exact H2_) | (have H2_ := (Option.bind_some _ _).symm.trans H; with_reducible exact H2_) | with_reducible exact H | (rw [hy197]; exact H) | exact H
     have Ny197 := Aside0.mk hy197
     clear hy197
     have H' := Aside0.mk H
     clear H
     go_wp2_with ((with_reducible refine gate_builtin (b := .append) (xs := #[.tmp 35, .tmp 38]) rfl ?_); at_builtin; refine Kd.R_append k49 (w0 := w) w.heap.size rfl (.tmp 35) (.tmp 38) 45 49 (.agg #[(.int .i64 0), (.int .i64 0), (.bool false), (.int .i64 0), (.int .i64 0), (.bool false), (.int .i64 0), (.int .i64 0)]) 64 rfl Tryd.underlying45 info49 rfl (by decide) (by omega) u3 x3_2 (⟨(-1), x32_2, (⟨false, 0, 0⟩ : S47), (⟨false, 0, 0⟩ : S47)⟩ : S49) [.int .i64 (-1), .int .i64 x32_2, .bool false, .int .i64 0, .int .i64 0, .bool false, .int .i64 0, .int .i64 0] (fun _ => True) (fun _ => False) rfl rfl ?aP (fun _ hk => hk.elim) ?aF ?aO ?aB ?aS ?aL ?_; (case aP => exact k49_mkM _ _ _ (⟨(-1), x32_2, (⟨false, 0, 0⟩ : S47), (⟨false, 0, 0⟩ : S47)⟩ : S49)); (case aB => exact bl); (case aF => exact (fun _ _ => trivial)); (case aO => exact (by (with_reducible repeat (first | apply Kd.R_alloc | apply Kd.R_drewN | apply Kd.R_drew)); exact HO_3.out)); (case aS => exact (below_size bl)); (case aL => have := LMc17.out; omega); intro v198 w18 ho hb hg hat; rw [← Ny197.out] at ho; replace BK190 := Aside0.mk (blk_grown (bk BK190.out) hg (Kd.R_ne HO_3.out BK190.out (by decide))); replace HB := Aside0.mk (hb); have HO199 := Aside0.mk (ho); clear HO_3; clear ho hb hg hat)
     go_roundg k2
     case measure => have := HK1.out; have := HK2.out; omega
     case rel => exact ⟨(y197), (wrap64 (x32_2 + 1)), (by first | rfl | (simp; done) | (simp [*]; done)), H', ⟨by have := HK1.out; have := HK2.out; omega⟩, ⟨by (with_reducible repeat (first | apply Kd.R_alloc | apply Kd.R_drewN | apply Kd.R_drew)); exact HO199.out⟩, ⟨bk BK190.out⟩, ⟨bl⟩⟩
  rw [if_pos c4] at H
  have c4b0 : decide (x11_1 < (l0_2.length : Int)) = true := decide_eq_true c4
  clear c4
  by_cases c5 : 0 ≤ x11_1
  rotate_left
  · rw [if_neg c5] at H
    exact absurd H (by simp)
  rw [if_pos c5] at H
  have c5b0 : decide (0 ≤ x11_1) = true := decide_eq_true c5
  clear c5
  by_cases c6 : x11_1 < (l0_2.length : Int)
  rotate_left
  · rw [if_neg c6] at H
    exact absurd H (by simp)
  rw [if_pos c6] at H
  have c6b0 : decide (x11_1 < (l0_2.length : Int)) = true := decide_eq_true c6
  clear c6
  replace H := Option.bind_eq_some_iff.mp H
  obtain ⟨t193, A70, H⟩ := H
  replace H : (timing_Ends.l1 k1 x3_1 x11_1 l0_2 (l0_2.length : Int) x11_1 t193 0 l0_0 l0_1 l0_2 l0_3 l0_4) = some r := H
  have A7 := Aside0.mk A70
  clear A70
  have H' := Aside0.mk H
  clear H
  have p191 : 0 ≤ (x11_1 : Int) := of_decide_eq_true (by first | (with_reducible assumption) | assumption)
  have q191 : x11_1 < (l0_2.length : Int) := of_decide_eq_true (by first | (with_reducible assumption) | assumption)
  obtain ⟨ad191, e191, hx191_0, hx191_1, hx191_2, hx191_3, hx191_4⟩ := at_T58 HR0_2.out x11_1 p191 q191
  cases e191
  replace hx191_0 := hc HB.out hx191_0
  replace hx191_1 := hc HB.out hx191_1
  replace hx191_2 := hc HB.out hx191_2
  replace hx191_3 := hc HB.out hx191_3
  replace hx191_4 := hc HB.out hx191_4
  replace p191 := eq_true p191
  replace q191 := eq_true q191
  go_wp2_with (first | ((with_reducible refine gate_dst (N := 5) rfl ?_); refine box_event ?hg (N := 5) ?hd (cs := #[.string (⟨#[]⟩ : ByteArray), .int .i64 0, .int .i64 0, .int .i64 0, .bool false]) (t := 58) ?hr ?_; (case hd => rfl); (case hg => rfl); (case hr => first | (go_simp; done) | (go_simp; rfl)); intro gb192 hg w8 hbox hb; have n0_ := Aside0.mk (rb HO_3.out hb); have n1_ := Aside0.mk (bb BK190.out hb); have n2_ := Aside0.mk (below_step bl hb); have n3_ := Aside0.mk (hbox); have n4_ := Aside0.mk (ge (w := w) hg); have n5_ := Aside0.mk (ge (w := w) hg); have n6_ := Aside0.mk (nl hg (bk BK190.out)); have n7_ := Aside0.mk (ng hg (bk BK190.out)); clear HO_3; clear BK190; clear HB; have HO_3 := n0_; have BK190 := n1_; have HB := n2_; have BK192 := n3_; have GE192 := n5_; have NB190_192 := n6_; have NB192_190 := n7_; clear n0_ n1_ n2_ n3_ n4_ n5_ n6_ n7_; clear hb hbox hg; obtain ⟨hcz10_0, hcz10_1, hcz10_2, hcz10_3, hcz10_4, hfz10_0, hfz10_1, hfz10_2, hfz10_3, hfz10_4⟩ := bz5 BK192.out) | ((with_reducible refine gate_callee (f := 17) rfl ?_); refine goesL_ (some 17) rfl rfl Tryd.func17 (by kernel_rfl) rfl #[.agg #[.string ((rd_T58 l0_2 x11_1).f0), .int .i64 ((rd_T58 l0_2 x11_1).f1), .int .i64 ((rd_T58 l0_2 x11_1).f2), .int .i64 ((rd_T58 l0_2 x11_1).f3), .bool ((rd_T58 l0_2 x11_1).f4)]] rfl (by (try simp only [List.map_toArray, List.map_cons, List.map_nil]); first | done | rfl | (simp only [List.length_drop, List.length_take]; rfl)) ?_; (with_reducible refine (delay_Inputs.calls ((rd_T58 l0_2 x11_1).f0) ((rd_T58 l0_2 x11_1).f1) ((rd_T58 l0_2 x11_1).f2) ((rd_T58 l0_2 x11_1).f3) ((rd_T58 l0_2 x11_1).f4) t193 _ A7.out).mono ?_); rintro e w11 ⟨rfl, hb⟩; refine ⟨_, rfl, ?_⟩; replace HO_3 := Aside0.mk (Kd.R_below (by (with_reducible repeat (first | apply Kd.R_alloc | apply Kd.R_drewN | apply Kd.R_drew)); exact (Kd.R_mono (Kd.R_far (p := ⟨gb192, 4, none⟩) (Kd.R_far (p := ⟨gb192, 3, none⟩) (Kd.R_far (p := ⟨gb192, 2, none⟩) (Kd.R_far (p := ⟨gb192, 1, none⟩) (Kd.R_far (p := ⟨gb192, 0, none⟩) (Kd.R_types HO_3.out BK192.out (by decide)) (fun _ hk => hk.2) (.string ((rd_T58 l0_2 x11_1).f0))) (fun _ hk => hk.2) (.int .i64 ((rd_T58 l0_2 x11_1).f1))) (fun _ hk => hk.2) (.int .i64 ((rd_T58 l0_2 x11_1).f2))) (fun _ hk => hk.2) (.int .i64 ((rd_T58 l0_2 x11_1).f3))) (fun _ hk => hk.2) (.bool ((rd_T58 l0_2 x11_1).f4))) (fun _ h_ => h_.1))) hb); replace BK190 := Aside0.mk (blk_below (bf BK190.out) hb); replace BK192 := Aside0.mk (blk_below (g := gb192) (o := .cells #[.string ((rd_T58 l0_2 x11_1).f0), .int .i64 ((rd_T58 l0_2 x11_1).f1), .int .i64 ((rd_T58 l0_2 x11_1).f2), .int .i64 ((rd_T58 l0_2 x11_1).f3), .bool ((rd_T58 l0_2 x11_1).f4)] 58 (0, 0)) (by (with_reducible repeat (first | refine blk_drewN ?_ _ | refine blk_drew ?_ | refine blk_alloc ?_ _)); refine blk_put (cs := #[.string ((rd_T58 l0_2 x11_1).f0), .int .i64 ((rd_T58 l0_2 x11_1).f1), .int .i64 ((rd_T58 l0_2 x11_1).f2), .int .i64 ((rd_T58 l0_2 x11_1).f3), .bool false]) ?_ 4 _ rfl; (with_reducible repeat (first | refine blk_drewN ?_ _ | refine blk_drew ?_ | refine blk_alloc ?_ _)); refine blk_put (cs := #[.string ((rd_T58 l0_2 x11_1).f0), .int .i64 ((rd_T58 l0_2 x11_1).f1), .int .i64 ((rd_T58 l0_2 x11_1).f2), .int .i64 0, .bool false]) ?_ 3 _ rfl; (with_reducible repeat (first | refine blk_drewN ?_ _ | refine blk_drew ?_ | refine blk_alloc ?_ _)); refine blk_put (cs := #[.string ((rd_T58 l0_2 x11_1).f0), .int .i64 ((rd_T58 l0_2 x11_1).f1), .int .i64 0, .int .i64 0, .bool false]) ?_ 2 _ rfl; (with_reducible repeat (first | refine blk_drewN ?_ _ | refine blk_drew ?_ | refine blk_alloc ?_ _)); refine blk_put (cs := #[.string ((rd_T58 l0_2 x11_1).f0), .int .i64 0, .int .i64 0, .int .i64 0, .bool false]) ?_ 1 _ rfl; (with_reducible repeat (first | refine blk_drewN ?_ _ | refine blk_drew ?_ | refine blk_alloc ?_ _)); refine blk_put (cs := #[.string (⟨#[]⟩ : ByteArray), .int .i64 0, .int .i64 0, .int .i64 0, .bool false]) ?_ 0 _ rfl; (with_reducible repeat (first | refine blk_drewN ?_ _ | refine blk_drew ?_ | refine blk_alloc ?_ _)); exact BK192.out) hb); replace HB := Aside0.mk (below_step bl hb); (try clear hb)))
  go_loopg [3, 18] k1 (fun kq v3 v18 w' => ∃ (x3_2 : List (S49)) (x18_2 : Int), v18 = .int .i64 x18_2 ∧ Aside0 (timing_Ends.l1 kq x3_2 x11_1 l0_2 (l0_2.length : Int) x11_1 t193 x18_2 l0_0 l0_1 l0_2 l0_3 l0_4 = some r) ∧ Aside0 (kq ≤ k1) ∧ Aside0 (Kd.R k49 49 w' w.heap.size (fun _ => True) v3 x3_2) ∧ Aside0 (w'.heap[gb190]? = some (.cells #[(.slice A0_0 l0_0.length c0_0), (.slice A0_1 l0_1.length c0_1), (.slice (some ad191) l0_2.length c0_2), (.slice A0_3 l0_3.length c0_3), (.slice A0_4 l0_4.length c0_4)] 27 (0, 0))) ∧ Aside0 (w'.heap[gb192]? = some (.cells #[.string ((rd_T58 l0_2 x11_1).f0), .int .i64 ((rd_T58 l0_2 x11_1).f1), .int .i64 ((rd_T58 l0_2 x11_1).f2), .int .i64 ((rd_T58 l0_2 x11_1).f3), .bool ((rd_T58 l0_2 x11_1).f4)] 58 (0, 0))) ∧ Aside0 (Below w.heap.size w w'))
  case atStart => exact ⟨(x3_1), (0), (by first | rfl | (simp; done) | (simp [*]; done)), H', ⟨Nat.le_refl _⟩, ⟨by (with_reducible repeat (first | apply Kd.R_alloc | apply Kd.R_drewN | apply Kd.R_drew)); exact HO_3.out⟩, ⟨bk BK190.out⟩, ⟨bk BK192.out⟩, ⟨bl⟩⟩
  clear H'
  clear c4b0 c5b0 c6b0 hcz10_0 hcz10_1 hcz10_2 hcz10_3 hcz10_4 hfz10_0 hfz10_1 hfz10_2 hfz10_3 hfz10_4 hx191_0 hx191_1 hx191_2 hx191_3 hx191_4 p191 q191
  obtain ⟨x3_2, x18_2, rfl, HA, HK2, HO_3, BK190, BK192, HB⟩ := hrel
  cases gk with
  | zero => exact absurd HA.out (by simp [timing_Ends.l1])
  | succ k2 =>
   have H := HA.out
   clear HA
   simp only [timing_Ends.l1] at H
   by_cases c12 : x18_2 < t193
   rotate_left
   · rw [if_neg c12] at H
     have c12b0 : decide (x18_2 < t193) = false := decide_eq_false c12
     clear c12
     have H' := Aside0.mk H
     clear H
     go_wp2
     go_roundg k2
     case measure => have := HK1.out; have := HK2.out; omega
     case rel => exact ⟨(x3_2), (wrap64 (x11_1 + 1)), (by first | rfl | (simp; done) | (simp [*]; done)), H', ⟨by have := HK1.out; have := HK2.out; omega⟩, ⟨by (with_reducible repeat (first | apply Kd.R_alloc | apply Kd.R_drewN | apply Kd.R_drew)); exact HO_3.out⟩, ⟨bk BK190.out⟩, ⟨bl⟩⟩
   rw [if_pos c12] at H
   have c12b0 : decide (x18_2 < t193) = true := decide_eq_true c12
   clear c12
   by_cases c13 : x3_2.length < 2199023255552
   rotate_left
   · rw [if_neg c13] at H
     exact absurd H (by simp)
   rw [if_pos c13] at H
   have LMc13 := Aside0.mk c13
   clear c13
   obtain ⟨y194, hy194⟩ : ∃ y_ : List (S49), y_ = (x3_2 ++ [(⟨x11_1, x18_2, (⟨false, 0, 0⟩ : S47), (⟨false, 0, 0⟩ : S47)⟩ : S49)]) := ⟨_, rfl⟩
   replace H : (timing_Ends.l1 k2 y194 x11_1 l0_2 (l0_2.length : Int) x11_1 t193 (wrap64 (x18_2 + 1)) l0_0 l0_1 l0_2 l0_3 l0_4) = some r := by first | (rw [hy194]; with_reducible exact H) | (have H2_ := (Option.bind_some _ _).symm.trans H; rw [hy194]; with_reducible exact H2_) | (have H2_ := (Option.bind_some _ _).symm.trans H; with_reducible exact H2_) | with_reducible exact H | (rw [hy194]; exact H) | exact H
   have Ny194 := Aside0.mk hy194
   clear hy194
   have H' := Aside0.mk H
   clear H
   go_wp2_with ((with_reducible refine gate_builtin (b := .append) (xs := #[.tmp 21, .tmp 25]) rfl ?_); at_builtin; refine Kd.R_append k49 (w0 := w) w.heap.size rfl (.tmp 21) (.tmp 25) 45 49 (.agg #[(.int .i64 0), (.int .i64 0), (.bool false), (.int .i64 0), (.int .i64 0), (.bool false), (.int .i64 0), (.int .i64 0)]) 64 rfl Tryd.underlying45 info49 rfl (by decide) (by omega) u3 x3_2 (⟨x11_1, x18_2, (⟨false, 0, 0⟩ : S47), (⟨false, 0, 0⟩ : S47)⟩ : S49) [.int .i64 x11_1, .int .i64 x18_2, .bool false, .int .i64 0, .int .i64 0, .bool false, .int .i64 0, .int .i64 0] (fun _ => True) (fun _ => False) rfl rfl ?aP (fun _ hk => hk.elim) ?aF ?aO ?aB ?aS ?aL ?_; (case aP => exact k49_mkM _ _ _ (⟨x11_1, x18_2, (⟨false, 0, 0⟩ : S47), (⟨false, 0, 0⟩ : S47)⟩ : S49)); (case aB => exact bl); (case aF => exact (fun _ _ => trivial)); (case aO => exact (by (with_reducible repeat (first | apply Kd.R_alloc | apply Kd.R_drewN | apply Kd.R_drew)); exact HO_3.out)); (case aS => exact (below_size bl)); (case aL => have := LMc13.out; omega); intro v195 w14 ho hb hg hat; rw [← Ny194.out] at ho; replace BK190 := Aside0.mk (blk_grown (bk BK190.out) hg (Kd.R_ne HO_3.out BK190.out (by decide))); replace BK192 := Aside0.mk (blk_grown (bk BK192.out) hg (Kd.R_ne HO_3.out BK192.out (by decide))); replace HB := Aside0.mk (hb); have HO196 := Aside0.mk (ho); clear HO_3; clear ho hb hg hat)
   go_roundg k2
   case measure => have := HK1.out; have := HK2.out; omega
   case rel => exact ⟨(y194), (wrap64 (x18_2 + 1)), (by first | rfl | (simp; done) | (simp [*]; done)), H', ⟨by have := HK1.out; have := HK2.out; omega⟩, ⟨by (with_reducible repeat (first | apply Kd.R_alloc | apply Kd.R_drewN | apply Kd.R_drew)); exact HO196.out⟩, ⟨bk BK190.out⟩, ⟨bk BK192.out⟩, ⟨bl⟩⟩

end Go.Proofs.YtlegjcagkmjfjaaDoor.PT
