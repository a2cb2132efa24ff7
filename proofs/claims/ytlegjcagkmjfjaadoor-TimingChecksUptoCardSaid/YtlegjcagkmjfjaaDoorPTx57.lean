-- PRINTED by print.py (a twelfth state) out of the translation. Not trusted: Lean checks it.
import Derived.Test.YtlegjcagkmjfjaaDoorPTx0
import Derived.Test.YtlegjcagkmjfjaaDoorCmp
namespace Go.Proofs.YtlegjcagkmjfjaaDoor.PT
open Go.RowKit Go.Proofs.YtlegjcagkmjfjaaDoorW.PrintWords Go.Proofs.YtlegjcagkmjfjaaDoorW.PrintLast Go.Proofs.YtlegjcagkmjfjaaDoorW.PrintMore
attribute [local go_sem] max2_int min2_int max_two min_two max_three min_three max_four min_four   -- for this text's walks alone
set_option linter.unusedVariables false
set_option linter.unusedSimpArgs false

/-! ### maskref4_In: function 54 -/
def maskref4_In.f (a0 : Int) (a1 : Int) (a2 : Int) : Option (Bool) := if a1 ≤ a0 then (some (decide (a0 ≤ a2))) else (some false)
set_option maxHeartbeats 8000000 in
set_option maxRecDepth 100000 in
theorem maskref4_In.calls (a0 : Int) (a1 : Int) (a2 : Int) (r : Bool) (w : World) (h : maskref4_In.f a0 a1 a2 = some r) :
    Calls Tryd.prog 54 #[.int .i64 a0, .int .i64 a1, .int .i64 a2] w fun e w' => e = .returned (.bool r) ∧ Drawn0 w w' := by
  have H : (if a1 ≤ a0 then (some (decide (a0 ≤ a2))) else (some false)) = some r := h
  clear h
  by_cases c4 : a1 ≤ a0
  · rw [if_pos c4] at H
    have c4b0 : decide (a1 ≤ a0) = true := decide_eq_true c4
    clear c4
    obtain rfl := Option.some.inj H
    go_enter Tryd.func54, Tryd.ntmps54
    go_wp2
    go_ret
    exact ⟨by first | rfl | (simp; done) | (simp [*]; done), by repeat (first | exact Drawn0.refl _ | apply Drawn0.step)⟩
  · rw [if_neg c4] at H
    have c4b0 : decide (a1 ≤ a0) = false := decide_eq_false c4
    clear c4
    obtain rfl := Option.some.inj H
    go_enter Tryd.func54, Tryd.ntmps54
    go_wp2
    go_ret
    exact ⟨by first | rfl | (simp; done) | (simp [*]; done), by repeat (first | exact Drawn0.refl _ | apply Drawn0.step)⟩

end Go.Proofs.YtlegjcagkmjfjaaDoor.PT
namespace Go.Proofs.YtlegjcagkmjfjaaDoor.PT
open Go.RowKit Go.Proofs.YtlegjcagkmjfjaaDoorW.PrintWords Go.Proofs.YtlegjcagkmjfjaaDoorW.PrintLast Go.Proofs.YtlegjcagkmjfjaaDoorW.PrintMore
attribute [local go_sem] max2_int min2_int max_two min_two max_three min_three max_four min_four   -- for this text's walks alone
set_option linter.unusedVariables false
set_option linter.unusedSimpArgs false

/-! ### maskref4_Printed: function 56 -/
def maskref4_Printed.l0 : Nat → ByteArray → Int → Option (Bool)
  | 0, _, _ => none
  | k + 1, x0, x3 => if x3 < (x0.size : Int) then (if 0 ≤ x3 then (if (bt x0 x3) < 33 then (some false) else (if (bt x0 x3) > 126 then (some false) else (maskref4_Printed.l0 k x0 (wrap64 (x3 + 1))))) else (none)) else (some (decide ((x0.size : Int) ≤ 128)))
def maskref4_Printed.f (k : Nat) (a0 : ByteArray) : Option (Bool) := maskref4_Printed.l0 k a0 0
theorem maskref4_Printed.mono_l : ∀ k, (∀ y0 y1, LeO (maskref4_Printed.l0 k y0 y1) (maskref4_Printed.l0 (k + 1) y0 y1))
  | 0 => fun _ _ r h => by simp [maskref4_Printed.l0] at h
  | k + 1 => by
    have ih0 := maskref4_Printed.mono_l k
    · intro y0 y1
      unfold maskref4_Printed.l0
      repeat' first
      | (with_reducible exact ih0 _ _)
      | (with_reducible exact LeO.refl _)
      | (with_reducible exact LeO.none _)
      | (with_reducible refine LeO.ite ?_ ?_)
      | (with_reducible refine LeO.bind ?_ (fun _ => ?_))
      | exact ih0 _ _
      | exact LeO.none _
      | refine LeO.ite ?_ ?_
      | refine LeO.bind ?_ (fun _ => ?_)
theorem maskref4_Printed.mono : ∀ a0 k, LeO (maskref4_Printed.f k a0) (maskref4_Printed.f (k + 1) a0) := by
  intro a0 k
  have ih0 := maskref4_Printed.mono_l k
  unfold maskref4_Printed.f
  repeat' first
      | (with_reducible exact ih0 _ _)
      | (with_reducible exact LeO.refl _)
      | (with_reducible exact LeO.none _)
      | (with_reducible refine LeO.ite ?_ ?_)
      | (with_reducible refine LeO.bind ?_ (fun _ => ?_))
      | exact ih0 _ _
      | exact LeO.none _
      | refine LeO.ite ?_ ?_
      | refine LeO.bind ?_ (fun _ => ?_)
set_option maxHeartbeats 8000000 in
set_option maxRecDepth 100000 in
theorem maskref4_Printed.calls (k : Nat) (a0 : ByteArray) (r : Bool) (w : World) (h : maskref4_Printed.f k a0 = some r) :
    Calls Tryd.prog 56 #[.string a0] w fun e w' => e = .returned (.bool r) ∧ Drawn0 w w' := by
  have H : (maskref4_Printed.l0 k a0 0) = some r := h
  clear h
  have H' := Aside0.mk H
  clear H
  go_enter Tryd.func56, Tryd.ntmps56
  go_wp2
  go_loopg [3] k (fun kq v3 w' => ∃ (x3_1 : Int), v3 = .int .i64 x3_1 ∧ Aside0 (maskref4_Printed.l0 kq a0 x3_1 = some r) ∧ Aside0 (kq ≤ k) ∧ Drawn0 w w')
  case atStart => exact ⟨(0), (by first | rfl | (simp; done) | (simp [*]; done)), H', ⟨Nat.le_refl _⟩, by repeat (first | exact Drawn0.refl _ | apply Drawn0.step)⟩
  case round =>
    clear H'
    obtain ⟨x3_1, rfl, HA, HK1, ⟨m1, rfl⟩⟩ := hrel
    cases gk with
    | zero => exact absurd HA.out (by simp [maskref4_Printed.l0])
    | succ k1 =>
      have H := HA.out
      clear HA
      simp only [maskref4_Printed.l0] at H
      by_cases c2 : x3_1 < (a0.size : Int)
      · rw [if_pos c2] at H
        have c2b0 : decide (x3_1 < (a0.size : Int)) = true := decide_eq_true c2
        clear c2
        by_cases c3 : 0 ≤ x3_1
        · rw [if_pos c3] at H
          have c3b0 : decide (0 ≤ x3_1) = true := decide_eq_true c3
          clear c3
          by_cases c5 : (bt a0 x3_1) < 33
          · rw [if_pos c5] at H
            have c5b0 : decide ((bt a0 x3_1) < 33) = true := decide_eq_true c5
            clear c5
            obtain rfl := Option.some.inj H
            have p4 : 0 ≤ (x3_1 : Int) := of_decide_eq_true (by first | (with_reducible assumption) | assumption)
            have q4 : x3_1 < (a0.size : Int) := of_decide_eq_true (by first | (with_reducible assumption) | assumption)
            have hx4 := bt_at a0 x3_1
            replace p4 := eq_true p4
            replace q4 := eq_true q4
            go_wp2
            go_ret
            exact ⟨by first | rfl | (simp; done) | (simp [*]; done), by repeat (first | exact Drawn0.refl _ | apply Drawn0.step)⟩
          · rw [if_neg c5] at H
            have c5b0 : decide ((bt a0 x3_1) < 33) = false := decide_eq_false c5
            clear c5
            by_cases c7 : (bt a0 x3_1) > 126
            · rw [if_pos c7] at H
              have c7b0 : decide (126 < (bt a0 x3_1)) = true := decide_eq_true c7
              clear c7
              obtain rfl := Option.some.inj H
              have p4 : 0 ≤ (x3_1 : Int) := of_decide_eq_true (by first | (with_reducible assumption) | assumption)
              have q4 : x3_1 < (a0.size : Int) := of_decide_eq_true (by first | (with_reducible assumption) | assumption)
              have hx4 := bt_at a0 x3_1
              replace p4 := eq_true p4
              replace q4 := eq_true q4
              have p6 : 0 ≤ (x3_1 : Int) := of_decide_eq_true (by first | (with_reducible assumption) | assumption)
              have q6 : x3_1 < (a0.size : Int) := of_decide_eq_true (by first | (with_reducible assumption) | assumption)
              have hx6 := bt_at a0 x3_1
              replace p6 := eq_true p6
              replace q6 := eq_true q6
              go_wp2
              go_ret
              exact ⟨by first | rfl | (simp; done) | (simp [*]; done), by repeat (first | exact Drawn0.refl _ | apply Drawn0.step)⟩
            · rw [if_neg c7] at H
              have c7b0 : decide (126 < (bt a0 x3_1)) = false := decide_eq_false c7
              clear c7
              have H' := Aside0.mk H
              clear H
              have p4 : 0 ≤ (x3_1 : Int) := of_decide_eq_true (by first | (with_reducible assumption) | assumption)
              have q4 : x3_1 < (a0.size : Int) := of_decide_eq_true (by first | (with_reducible assumption) | assumption)
              have hx4 := bt_at a0 x3_1
              replace p4 := eq_true p4
              replace q4 := eq_true q4
              have p6 : 0 ≤ (x3_1 : Int) := of_decide_eq_true (by first | (with_reducible assumption) | assumption)
              have q6 : x3_1 < (a0.size : Int) := of_decide_eq_true (by first | (with_reducible assumption) | assumption)
              have hx6 := bt_at a0 x3_1
              replace p6 := eq_true p6
              replace q6 := eq_true q6
              go_wp2
              go_roundg k1
              case measure => have := HK1.out; omega
              case rel => exact ⟨(wrap64 (x3_1 + 1)), (by first | rfl | (simp; done) | (simp [*]; done)), H', ⟨by have := HK1.out; omega⟩, by repeat (first | exact Drawn0.refl _ | apply Drawn0.step)⟩
        · rw [if_neg c3] at H
          exact absurd H (by simp)
      · rw [if_neg c2] at H
        have c2b0 : decide (x3_1 < (a0.size : Int)) = false := decide_eq_false c2
        clear c2
        obtain rfl := Option.some.inj H
        go_wp2
        go_ret
        exact ⟨by first | rfl | (simp; done) | (simp [*]; done), by repeat (first | exact Drawn0.refl _ | apply Drawn0.step)⟩

end Go.Proofs.YtlegjcagkmjfjaaDoor.PT
namespace Go.Proofs.YtlegjcagkmjfjaaDoor.PT
open Go.RowKit Go.Proofs.YtlegjcagkmjfjaaDoorW.PrintWords Go.Proofs.YtlegjcagkmjfjaaDoorW.PrintLast Go.Proofs.YtlegjcagkmjfjaaDoorW.PrintMore
attribute [local go_sem] max2_int min2_int max_two min_two max_three min_three max_four min_four   -- for this text's walks alone
set_option linter.unusedVariables false
set_option linter.unusedSimpArgs false

/-! ### maskref4_name: function 55 -/
def maskref4_name.f (k : Nat) (a0 : ByteArray) : Option (Bool) := if a0.toList = ([] : List UInt8) then (some false) else ((maskref4_Printed.f k a0).bind fun t328 => (some t328))
theorem maskref4_name.mono : ∀ a0 k, LeO (maskref4_name.f k a0) (maskref4_name.f (k + 1) a0) := by
  intro a0 k
  unfold maskref4_name.f
  repeat' first
      | (with_reducible exact maskref4_Printed.mono _ _)
      | (with_reducible exact LeO.refl _)
      | (with_reducible exact LeO.none _)
      | (with_reducible refine LeO.ite ?_ ?_)
      | (with_reducible refine LeO.bind ?_ (fun _ => ?_))
      | exact maskref4_Printed.mono _ _
      | exact LeO.none _
      | refine LeO.ite ?_ ?_
      | refine LeO.bind ?_ (fun _ => ?_)
set_option maxHeartbeats 8000000 in
set_option maxRecDepth 100000 in
theorem maskref4_name.calls (k : Nat) (a0 : ByteArray) (r : Bool) (w : World) (h : maskref4_name.f k a0 = some r) :
    Calls Tryd.prog 55 #[.string a0] w fun e w' => e = .returned (.bool r) ∧ Drawn0 w w' := by
  have H : (if a0.toList = ([] : List UInt8) then (some false) else ((maskref4_Printed.f k a0).bind fun t328 => (some t328))) = some r := h
  clear h
  by_cases c2 : a0.toList = ([] : List UInt8)
  · rw [if_pos c2] at H
    have c2b0 : (a0.toList == ([] : List UInt8)) = true := beq_iff_eq.mpr c2
    have c2b1 : (a0.toList != ([] : List UInt8)) = false := bne_eq_false_iff_eq.mpr c2
    clear c2
    obtain rfl := Option.some.inj H
    go_enter Tryd.func55, Tryd.ntmps55
    go_wp2
    go_ret
    exact ⟨by first | rfl | (simp; done) | (simp [*]; done), by repeat (first | exact Drawn0.refl _ | apply Drawn0.step)⟩
  · rw [if_neg c2] at H
    have c2b0 : (a0.toList == ([] : List UInt8)) = false := beq_eq_false_iff_ne.mpr c2
    have c2b1 : (a0.toList != ([] : List UInt8)) = true := bne_iff_ne.mpr c2
    replace H := Option.bind_eq_some_iff.mp H
    obtain ⟨t328, A30, H⟩ := H
    replace H : (some t328) = some r := H
    have A3 := Aside0.mk A30
    clear A30
    obtain rfl := Option.some.inj H
    go_enter Tryd.func55, Tryd.ntmps55
    go_wp2_with (first | (go_at_call 56; (with_reducible refine (maskref4_Printed.calls k a0 t328 _ A3.out).mono ?_); rintro e w' ⟨rfl, ⟨nd, rfl⟩⟩))
    go_ret
    exact ⟨by first | rfl | (simp; done) | (simp [*]; done), by repeat (first | exact Drawn0.refl _ | apply Drawn0.step)⟩

end Go.Proofs.YtlegjcagkmjfjaaDoor.PT
namespace Go.Proofs.YtlegjcagkmjfjaaDoor.PT
open Go.RowKit Go.Proofs.YtlegjcagkmjfjaaDoorW.PrintWords Go.Proofs.YtlegjcagkmjfjaaDoorW.PrintLast Go.Proofs.YtlegjcagkmjfjaaDoorW.PrintMore
attribute [local go_sem] max2_int min2_int max_two min_two max_three min_three max_four min_four   -- for this text's walks alone
set_option linter.unusedVariables false
set_option linter.unusedSimpArgs false

/-! ### maskref4_LimitsFault: function 29 -/
mutual
def maskref4_LimitsFault.j0 : Nat → Bool → Int → List (S78) → List (S81) → List (S83) → Option (Int)
 | 0, _, _, _, _, _ => none
 | k + 1, x32, x330000, x330001, x330002, x330003 => if x32 = true then (some 3) else (maskref4_LimitsFault.l0 k x330001 (x330001.length : Int) 0 x330000 x330001 x330002 x330003)
def maskref4_LimitsFault.l0 : Nat → List (S78) → Int → Int → Int → List (S78) → List (S81) → List (S83) → Option (Int)
 | 0, _, _, _, _, _, _, _ => none
 | k + 1, x34, x35, x36, x330000, x330001, x330002, x330003 => if x36 < x35 then (if 0 ≤ x36 then (if x36 < (x34.length : Int) then ((maskref4_name.f k ((rd_T78 x34 x36).f0)).bind fun t333 => (if t333 = true then (if ((rd_T78 x34 x36).f1.f0) < 0 then (maskref4_LimitsFault.j2 k x36 x34 x35 x36 true x330000 x330001 x330002 x330003 ((rd_T78 x34 x36).f0) ((rd_T78 x34 x36).f1.f0) ((rd_T78 x34 x36).f1.f1)) else (if ((rd_T78 x34 x36).f1.f0) > ((rd_T78 x34 x36).f1.f1) then (maskref4_LimitsFault.j2 k x36 x34 x35 x36 true x330000 x330001 x330002 x330003 ((rd_T78 x34 x36).f0) ((rd_T78 x34 x36).f1.f0) ((rd_T78 x34 x36).f1.f1)) else (maskref4_LimitsFault.j2 k x36 x34 x35 x36 (decide (((rd_T78 x34 x36).f1.f1) > 16777216)) x330000 x330001 x330002 x330003 ((rd_T78 x34 x36).f0) ((rd_T78 x34 x36).f1.f0) ((rd_T78 x34 x36).f1.f1)))) else (some 9))) else (none)) else (none)) else (maskref4_LimitsFault.l2 k x330002 (x330002.length : Int) 0 x330000 x330001 x330002 x330003)
def maskref4_LimitsFault.j2 : Nat → Int → List (S78) → Int → Int → Bool → Int → List (S78) → List (S81) → List (S83) → ByteArray → Int → Int → Option (Int)
 | 0, _, _, _, _, _, _, _, _, _, _, _, _ => none
 | k + 1, x3, x34, x35, x36, x63, x330000, x330001, x330002, x330003, x333000, x333001, x333002 => if x63 = true then (some 2) else (if 0 ≤ x3 then (if x3 ≤ (x330001.length : Int) then ((some (x330001.take (x3 : Int).toNat : List (S78))).bind fun y334 => (maskref4_LimitsFault.l1 k x34 x35 x36 y334 (y334.length : Int) 0 x330000 x330001 x330002 x330003 x333000 x333001 x333002)) else (none)) else (none))
def maskref4_LimitsFault.l1 : Nat → List (S78) → Int → Int → List (S78) → Int → Int → Int → List (S78) → List (S81) → List (S83) → ByteArray → Int → Int → Option (Int)
 | 0, _, _, _, _, _, _, _, _, _, _, _, _, _ => none
 | k + 1, x34, x35, x36, x67, x68, x69, x330000, x330001, x330002, x330003, x333000, x333001, x333002 => if x69 < x68 then (if 0 ≤ x69 then (if x69 < (x67.length : Int) then (if x333000.toList = ((rd_T78 x67 x69).f0).toList then (some 6) else (maskref4_LimitsFault.l1 k x34 x35 x36 x67 x68 (wrap64 (x69 + 1)) x330000 x330001 x330002 x330003 x333000 x333001 x333002)) else (none)) else (none)) else (maskref4_LimitsFault.l0 k x34 x35 (wrap64 (x36 + 1)) x330000 x330001 x330002 x330003)
def maskref4_LimitsFault.l2 : Nat → List (S81) → Int → Int → Int → List (S78) → List (S81) → List (S83) → Option (Int)
 | 0, _, _, _, _, _, _, _ => none
 | k + 1, x81, x82, x83, x330000, x330001, x330002, x330003 => if x83 < x82 then (if 0 ≤ x83 then (if x83 < (x81.length : Int) then ((maskref4_name.f k ((rd_T81 x81 x83).f0)).bind fun t342 => (if t342 = true then ((maskref4_In.f ((rd_T81 x81 x83).f1) 1 16777216).bind fun t343 => (if t343 = true then (if x83 ≤ (x330002.length : Int) then ((some (x330002.take (x83 : Int).toNat : List (S81))).bind fun y344 => (maskref4_LimitsFault.l3 k x81 x82 x83 y344 (y344.length : Int) 0 x330000 x330001 x330002 x330003 ((rd_T81 x81 x83).f0) ((rd_T81 x81 x83).f1))) else (none)) else (some 2))) else (some 9))) else (none)) else (none)) else (maskref4_LimitsFault.l4 k x330003 (x330003.length : Int) 0)
def maskref4_LimitsFault.l3 : Nat → List (S81) → Int → Int → List (S81) → Int → Int → Int → List (S78) → List (S81) → List (S83) → ByteArray → Int → Option (Int)
 | 0, _, _, _, _, _, _, _, _, _, _, _, _ => none
 | k + 1, x81, x82, x83, x99, x100, x101, x330000, x330001, x330002, x330003, x342000, x342001 => if x101 < x100 then (if 0 ≤ x101 then (if x101 < (x99.length : Int) then (if x342000.toList = ((rd_T81 x99 x101).f0).toList then (some 6) else (maskref4_LimitsFault.l3 k x81 x82 x83 x99 x100 (wrap64 (x101 + 1)) x330000 x330001 x330002 x330003 x342000 x342001)) else (none)) else (none)) else (maskref4_LimitsFault.l2 k x81 x82 (wrap64 (x83 + 1)) x330000 x330001 x330002 x330003)
def maskref4_LimitsFault.l4 : Nat → List (S83) → Int → Int → Option (Int)
 | 0, _, _, _ => none
 | k + 1, x113, x114, x115 => if x115 < x114 then (if 0 ≤ x115 then (if x115 < (x113.length : Int) then ((maskref4_Printed.f k ((rd_T83 x113 x115).f0)).bind fun t352 => (if t352 = true then ((maskref4_Printed.f k ((rd_T83 x113 x115).f1)).bind fun t353 => (maskref4_LimitsFault.j7 k x113 x114 x115 (!t353) ((rd_T83 x113 x115).f0) ((rd_T83 x113 x115).f1) ((rd_T83 x113 x115).f2))) else (maskref4_LimitsFault.j7 k x113 x114 x115 true ((rd_T83 x113 x115).f0) ((rd_T83 x113 x115).f1) ((rd_T83 x113 x115).f2)))) else (none)) else (none)) else (some 0)
def maskref4_LimitsFault.j7 : Nat → List (S83) → Int → Int → Bool → ByteArray → ByteArray → Int → Option (Int)
 | 0, _, _, _, _, _, _, _ => none
 | k + 1, x113, x114, x115, x128, x352000, x352001, x352002 => if x128 = true then (some 9) else (if x352002 = 0 then (maskref4_LimitsFault.l4 k x113 x114 (wrap64 (x115 + 1))) else ((maskref4_In.f x352002 2 16).bind fun t354 => (if t354 = true then (maskref4_LimitsFault.l4 k x113 x114 (wrap64 (x115 + 1))) else (some 2))))
end
def maskref4_LimitsFault.f (k : Nat) (a0_0 : Int) (l0_1 : List (S78)) (l0_2 : List (S81)) (l0_3 : List (S83)) : Option (Int) := (maskref4_In.f a0_0 1 67108864).bind fun t330 => (if t330 = true then (if (l0_1.length : Int) > 128 then (maskref4_LimitsFault.j0 k true a0_0 l0_1 l0_2 l0_3) else (if (l0_2.length : Int) > 128 then (maskref4_LimitsFault.j0 k true a0_0 l0_1 l0_2 l0_3) else (maskref4_LimitsFault.j0 k (decide ((l0_3.length : Int) > 64)) a0_0 l0_1 l0_2 l0_3))) else (some 2))
theorem maskref4_LimitsFault.mono_l : ∀ k, (∀ y0 y1 y2 y3 y4, LeO (maskref4_LimitsFault.j0 k y0 y1 y2 y3 y4) (maskref4_LimitsFault.j0 (k + 1) y0 y1 y2 y3 y4)) ∧ (∀ y0 y1 y2 y3 y4 y5 y6, LeO (maskref4_LimitsFault.l0 k y0 y1 y2 y3 y4 y5 y6) (maskref4_LimitsFault.l0 (k + 1) y0 y1 y2 y3 y4 y5 y6)) ∧ (∀ y0 y1 y2 y3 y4 y5 y6 y7 y8 y9 y10 y11, LeO (maskref4_LimitsFault.j2 k y0 y1 y2 y3 y4 y5 y6 y7 y8 y9 y10 y11) (maskref4_LimitsFault.j2 (k + 1) y0 y1 y2 y3 y4 y5 y6 y7 y8 y9 y10 y11)) ∧ (∀ y0 y1 y2 y3 y4 y5 y6 y7 y8 y9 y10 y11 y12, LeO (maskref4_LimitsFault.l1 k y0 y1 y2 y3 y4 y5 y6 y7 y8 y9 y10 y11 y12) (maskref4_LimitsFault.l1 (k + 1) y0 y1 y2 y3 y4 y5 y6 y7 y8 y9 y10 y11 y12)) ∧ (∀ y0 y1 y2 y3 y4 y5 y6, LeO (maskref4_LimitsFault.l2 k y0 y1 y2 y3 y4 y5 y6) (maskref4_LimitsFault.l2 (k + 1) y0 y1 y2 y3 y4 y5 y6)) ∧ (∀ y0 y1 y2 y3 y4 y5 y6 y7 y8 y9 y10 y11, LeO (maskref4_LimitsFault.l3 k y0 y1 y2 y3 y4 y5 y6 y7 y8 y9 y10 y11) (maskref4_LimitsFault.l3 (k + 1) y0 y1 y2 y3 y4 y5 y6 y7 y8 y9 y10 y11)) ∧ (∀ y0 y1 y2, LeO (maskref4_LimitsFault.l4 k y0 y1 y2) (maskref4_LimitsFault.l4 (k + 1) y0 y1 y2)) ∧ (∀ y0 y1 y2 y3 y4 y5 y6, LeO (maskref4_LimitsFault.j7 k y0 y1 y2 y3 y4 y5 y6) (maskref4_LimitsFault.j7 (k + 1) y0 y1 y2 y3 y4 y5 y6))
 | 0 => ⟨fun _ _ _ _ _ r h => by simp [maskref4_LimitsFault.j0] at h, fun _ _ _ _ _ _ _ r h => by simp [maskref4_LimitsFault.l0] at h, fun _ _ _ _ _ _ _ _ _ _ _ _ r h => by simp [maskref4_LimitsFault.j2] at h, fun _ _ _ _ _ _ _ _ _ _ _ _ _ r h => by simp [maskref4_LimitsFault.l1] at h, fun _ _ _ _ _ _ _ r h => by simp [maskref4_LimitsFault.l2] at h, fun _ _ _ _ _ _ _ _ _ _ _ _ r h => by simp [maskref4_LimitsFault.l3] at h, fun _ _ _ r h => by simp [maskref4_LimitsFault.l4] at h, fun _ _ _ _ _ _ _ r h => by simp [maskref4_LimitsFault.j7] at h⟩
 | k + 1 => by
  obtain ⟨ih0, ih1, ih2, ih3, ih4, ih5, ih6, ih7⟩ := maskref4_LimitsFault.mono_l k
  refine ⟨?_, ?_, ?_, ?_, ?_, ?_, ?_, ?_⟩
  · intro y0 y1 y2 y3 y4
    unfold maskref4_LimitsFault.j0
    repeat' first
    | (with_reducible exact ih1 _ _ _ _ _ _ _)
    | (with_reducible exact LeO.refl _)
    | (with_reducible exact LeO.none _)
    | (with_reducible refine LeO.ite ?_ ?_)
    | (with_reducible refine LeO.bind ?_ (fun _ => ?_))
  · intro y0 y1 y2 y3 y4 y5 y6
    unfold maskref4_LimitsFault.l0
    repeat' first
    | (with_reducible exact ih2 _ _ _ _ _ _ _ _ _ _ _ _)
    | (with_reducible exact ih4 _ _ _ _ _ _ _)
    | (with_reducible exact maskref4_name.mono _ _)
    | (with_reducible exact LeO.refl _)
    | (with_reducible exact LeO.none _)
    | (with_reducible refine LeO.ite ?_ ?_)
    | (with_reducible refine LeO.bind ?_ (fun _ => ?_))
  · intro y0 y1 y2 y3 y4 y5 y6 y7 y8 y9 y10 y11
    unfold maskref4_LimitsFault.j2
    repeat' first
    | (with_reducible exact ih3 _ _ _ _ _ _ _ _ _ _ _ _ _)
    | (with_reducible exact LeO.refl _)
    | (with_reducible exact LeO.none _)
    | (with_reducible refine LeO.ite ?_ ?_)
    | (with_reducible refine LeO.bind ?_ (fun _ => ?_))
  · intro y0 y1 y2 y3 y4 y5 y6 y7 y8 y9 y10 y11 y12
    unfold maskref4_LimitsFault.l1
    repeat' first
    | (with_reducible exact ih1 _ _ _ _ _ _ _)
    | (with_reducible exact ih3 _ _ _ _ _ _ _ _ _ _ _ _ _)
    | (with_reducible exact LeO.refl _)
    | (with_reducible exact LeO.none _)
    | (with_reducible refine LeO.ite ?_ ?_)
    | (with_reducible refine LeO.bind ?_ (fun _ => ?_))
  · intro y0 y1 y2 y3 y4 y5 y6
    unfold maskref4_LimitsFault.l2
    repeat' first
    | (with_reducible exact ih5 _ _ _ _ _ _ _ _ _ _ _ _)
    | (with_reducible exact ih6 _ _ _)
    | (with_reducible exact maskref4_name.mono _ _)
    | (with_reducible exact LeO.refl _)
    | (with_reducible exact LeO.none _)
    | (with_reducible refine LeO.ite ?_ ?_)
    | (with_reducible refine LeO.bind ?_ (fun _ => ?_))
  · intro y0 y1 y2 y3 y4 y5 y6 y7 y8 y9 y10 y11
    unfold maskref4_LimitsFault.l3
    repeat' first
    | (with_reducible exact ih4 _ _ _ _ _ _ _)
    | (with_reducible exact ih5 _ _ _ _ _ _ _ _ _ _ _ _)
    | (with_reducible exact LeO.refl _)
    | (with_reducible exact LeO.none _)
    | (with_reducible refine LeO.ite ?_ ?_)
    | (with_reducible refine LeO.bind ?_ (fun _ => ?_))
  · intro y0 y1 y2
    unfold maskref4_LimitsFault.l4
    repeat' first
    | (with_reducible exact ih7 _ _ _ _ _ _ _)
    | (with_reducible exact maskref4_Printed.mono _ _)
    | (with_reducible exact LeO.refl _)
    | (with_reducible exact LeO.none _)
    | (with_reducible refine LeO.ite ?_ ?_)
    | (with_reducible refine LeO.bind ?_ (fun _ => ?_))
  · intro y0 y1 y2 y3 y4 y5 y6
    unfold maskref4_LimitsFault.j7
    repeat' first
    | (with_reducible exact ih6 _ _ _)
    | (with_reducible exact LeO.refl _)
    | (with_reducible exact LeO.none _)
    | (with_reducible refine LeO.ite ?_ ?_)
    | (with_reducible refine LeO.bind ?_ (fun _ => ?_))
theorem maskref4_LimitsFault.mono : ∀ a0 a1 a2 a3 k, LeO (maskref4_LimitsFault.f k a0 a1 a2 a3) (maskref4_LimitsFault.f (k + 1) a0 a1 a2 a3) := by
 intro a0 a1 a2 a3 k
 obtain ⟨ih0, ih1, ih2, ih3, ih4, ih5, ih6, ih7⟩ := maskref4_LimitsFault.mono_l k
 unfold maskref4_LimitsFault.f
 repeat' first
  | (with_reducible exact ih0 _ _ _ _ _)
  | (with_reducible exact LeO.refl _)
  | (with_reducible exact LeO.none _)
  | (with_reducible refine LeO.ite ?_ ?_)
  | (with_reducible refine LeO.bind ?_ (fun _ => ?_))
set_option maxHeartbeats 8000000 in
set_option maxRecDepth 100000 in
theorem maskref4_LimitsFault.calls (k : Nat) (a0_0 : Int) (A0_1 : Option Addr) (c0_1 : Nat) (l0_1 : List (S78)) (A0_2 : Option Addr) (c0_2 : Nat) (l0_2 : List (S81)) (A0_3 : Option Addr) (c0_3 : Nat) (l0_3 : List (S83)) (r : Int) (w : World) (hr0_1 : Kd.C k78 w A0_1 l0_1.length l0_1) (hc0_1 : l0_1.length ≤ c0_1) (hr0_2 : Kd.C k81 w A0_2 l0_2.length l0_2) (hc0_2 : l0_2.length ≤ c0_2) (hr0_3 : Kd.C k83 w A0_3 l0_3.length l0_3) (hc0_3 : l0_3.length ≤ c0_3) (h : maskref4_LimitsFault.f k a0_0 l0_1 l0_2 l0_3 = some r) :
 Calls Tryd.prog 29 #[.agg #[.int .i64 a0_0, .slice A0_1 l0_1.length c0_1, .slice A0_2 l0_2.length c0_2, .slice A0_3 l0_3.length c0_3]] w fun e w' => e = .returned (.int .i64 r) ∧ Below w.heap.size w w' := by
 have HR0_1 := Aside0.mk hr0_1
 have HC0_1 := Aside0.mk hc0_1
 clear hr0_1 hc0_1
 have HR0_2 := Aside0.mk hr0_2
 have HC0_2 := Aside0.mk hc0_2
 clear hr0_2 hc0_2
 have HR0_3 := Aside0.mk hr0_3
 clear hr0_3 hc0_3
 have HB := Aside0.mk (Below.refl w.heap.size w)
 have H : ((maskref4_In.f a0_0 1 67108864).bind fun t330 => (if t330 = true then (if (l0_1.length : Int) > 128 then (maskref4_LimitsFault.j0 k true a0_0 l0_1 l0_2 l0_3) else (if (l0_2.length : Int) > 128 then (maskref4_LimitsFault.j0 k true a0_0 l0_1 l0_2 l0_3) else (maskref4_LimitsFault.j0 k (decide ((l0_3.length : Int) > 64)) a0_0 l0_1 l0_2 l0_3))) else (some 2))) = some r := h
 clear h
 replace H := Option.bind_eq_some_iff.mp H
 obtain ⟨t330, A20, H⟩ := H
 replace H : (if t330 = true then (if (l0_1.length : Int) > 128 then (maskref4_LimitsFault.j0 k true a0_0 l0_1 l0_2 l0_3) else (if (l0_2.length : Int) > 128 then (maskref4_LimitsFault.j0 k true a0_0 l0_1 l0_2 l0_3) else (maskref4_LimitsFault.j0 k (decide ((l0_3.length : Int) > 64)) a0_0 l0_1 l0_2 l0_3))) else (some 2)) = some r := H
 have A2 := Aside0.mk A20
 clear A20
 by_cases c3 : t330 = true
 rotate_left
 · replace c3 := Bool.eq_false_iff.mpr c3
   subst c3
   have H1 : (some 2) = some r := by rw [if_neg (show ¬ (false = true) by decide)] at H; exact H
   clear H
   have H := H1
   clear H1
   obtain rfl := Option.some.inj H
   go_enter Tryd.func29, Tryd.ntmps29
   go_wp2_with (first | ((with_reducible refine gate_dst (N := 1) rfl ?_); (try (refine gate_guard (by rfl) ?_; dsimp only)); refine box_event ?hg (N := 1) ?hd (cs := #[.int .i64 a0_0, .slice A0_1 l0_1.length c0_1, .slice A0_2 l0_2.length c0_2, .slice A0_3 l0_3.length c0_3]) (t := 37) ?hr ?_; (case hd => rfl); (case hg => rfl); (case hr => first | (go_simp; done) | (go_simp; rfl)); intro gb329 hg w120 hbox hb; have n0_ := Aside0.mk (below_step bl hb); have n1_ := Aside0.mk (hbox); have n2_ := Aside0.mk (ge (w := w) hg); have n3_ := Aside0.mk (ge (w := w) hg); clear HB; have HB := n0_; have BK329 := n1_; clear n0_ n1_ n2_ n3_; clear hb hbox hg; obtain ⟨hcz121_0, -, -, -, -, -, -, hfz121_3⟩ := bz4 BK329.out) | ((with_reducible refine gate_callee (f := 54) rfl ?_); refine goesL_ (some 15) rfl rfl Tryd.func54 (by kernel_rfl) rfl #[.int .i64 a0_0, .int .i64 1, .int .i64 67108864] rfl (by (try simp only [List.map_toArray, List.map_cons, List.map_nil]); first | done | rfl | (simp only [List.length_drop, List.length_take]; rfl)) ?_; (with_reducible refine (maskref4_In.calls a0_0 1 67108864 false _ A2.out).mono ?_); rintro e w' ⟨rfl, ⟨nd, rfl⟩⟩; refine ⟨_, rfl, ?_⟩))
   go_ret
   exact ⟨by first | rfl | (simp [errW_none, errW_some] <;> rfl) | (simp [*, errW_none, errW_some] <;> rfl), bl⟩
 subst c3
 have H1 : (if (l0_1.length : Int) > 128 then (maskref4_LimitsFault.j0 k true a0_0 l0_1 l0_2 l0_3) else (if (l0_2.length : Int) > 128 then (maskref4_LimitsFault.j0 k true a0_0 l0_1 l0_2 l0_3) else (maskref4_LimitsFault.j0 k (decide ((l0_3.length : Int) > 64)) a0_0 l0_1 l0_2 l0_3))) = some r := by rw [if_pos rfl] at H; exact H
 clear H
 have H := H1
 clear H1
 have HC4 := Aside0.mk H
 clear H
 go_enter Tryd.func29, Tryd.ntmps29
 go_upto_region 3 with (first | ((with_reducible refine gate_dst (N := 1) rfl ?_); (try (refine gate_guard (by rfl) ?_; dsimp only)); refine box_event ?hg (N := 1) ?hd (cs := #[.int .i64 a0_0, .slice A0_1 l0_1.length c0_1, .slice A0_2 l0_2.length c0_2, .slice A0_3 l0_3.length c0_3]) (t := 37) ?hr ?_; (case hd => rfl); (case hg => rfl); (case hr => first | (go_simp; done) | (go_simp; rfl)); intro gb329 hg w5 hbox hb; have n0_ := Aside0.mk (below_step bl hb); have n1_ := Aside0.mk (hbox); have n2_ := Aside0.mk (ge (w := w) hg); have n3_ := Aside0.mk (ge (w := w) hg); clear HB; have HB := n0_; have BK329 := n1_; have GE329 := n3_; clear n0_ n1_ n2_ n3_; clear hb hbox hg; obtain ⟨hcz6_0, hcz6_1, hcz6_2, hcz6_3, hfz6_0, hfz6_1, hfz6_2, hfz6_3⟩ := bz4 BK329.out) | ((with_reducible refine gate_callee (f := 54) rfl ?_); refine goesL_ (some 15) rfl rfl Tryd.func54 (by kernel_rfl) rfl #[.int .i64 a0_0, .int .i64 1, .int .i64 67108864] rfl (by (try simp only [List.map_toArray, List.map_cons, List.map_nil]); first | done | rfl | (simp only [List.length_drop, List.length_take]; rfl)) ?_; (with_reducible refine (maskref4_In.calls a0_0 1 67108864 true _ A2.out).mono ?_); rintro e w' ⟨rfl, ⟨nd, rfl⟩⟩; refine ⟨_, rfl, ?_⟩))
 (try simp only [Act.put, List.setIfInBounds_toArray, List.set_cons_zero, List.set_cons_succ])
 go_cut [32] (fun v32 wc => ∃ (kq : Nat) (x32_3 : Bool), v32 = .bool x32_3 ∧ Aside0 (maskref4_LimitsFault.j0 kq x32_3 a0_0 l0_1 l0_2 l0_3 = some r) ∧ Aside0 (kq ≤ k) ∧ Aside0 (wc.heap[gb329]? = some (.cells #[.int .i64 a0_0, (.slice A0_1 l0_1.length c0_1), (.slice A0_2 l0_2.length c0_2), (.slice A0_3 l0_3.length c0_3)] 37 (0, 0))) ∧ Aside0 (Below w.heap.size w wc))
 case first =>
  have H := HC4.out
  clear HC4
  by_cases c7 : (l0_1.length : Int) > 128
  · rw [if_pos c7] at H
    have c7b0 : decide (128 < (l0_1.length : Int)) = true := decide_eq_true c7
    clear c7
    (first | rw [c7b0] | (simp only [i64_w, i32_w]; rw [c7b0]) | skip)
    have H' := Aside0.mk H
    clear H
    go_wp2
    go_meet
    case rel => exact ⟨_, (true), (by first | rfl | (simp; done) | (simp [*]; done)), H', ⟨by first | omega | exact Nat.le_refl _⟩, ⟨bk BK329.out⟩, ⟨bl⟩⟩
  rw [if_neg c7] at H
  have c7b0 : decide (128 < (l0_1.length : Int)) = false := decide_eq_false c7
  have c7b1 : decide (128 < l0_1.length) = false := decide_eq_false (by omega)
  clear c7
  (first | rw [c7b0] | (simp only [i64_w, i32_w]; rw [c7b0]) | skip)
  by_cases c9 : (l0_2.length : Int) > 128
  · rw [if_pos c9] at H
    have c9b0 : decide (128 < (l0_2.length : Int)) = true := decide_eq_true c9
    clear c9
    have H' := Aside0.mk H
    clear H
    go_wp2
    go_meet
    case rel => exact ⟨_, (true), (by first | rfl | (simp; done) | (simp [*]; done)), H', ⟨by first | omega | exact Nat.le_refl _⟩, ⟨bk BK329.out⟩, ⟨bl⟩⟩
  rw [if_neg c9] at H
  have c9b0 : decide (128 < (l0_2.length : Int)) = false := decide_eq_false c9
  clear c9
  have H' := Aside0.mk H
  clear H
  go_wp2
  go_meet
  case rel => exact ⟨_, (decide ((l0_3.length : Int) > 64)), (by first | rfl | (simp; done) | (simp [*]; done)), H', ⟨by first | omega | exact Nat.le_refl _⟩, ⟨bk BK329.out⟩, ⟨bl⟩⟩
 clear HC4
 clear hcz6_0 hcz6_1 hcz6_2 hcz6_3 hfz6_0 hfz6_1 hfz6_2 hfz6_3
 obtain ⟨kq, x32_3, rfl, HA, HJ3, BK329, HB⟩ := hcut
 cases kq with
 | zero => exact absurd HA.out (by simp [maskref4_LimitsFault.j0])
 | succ kj3 =>
  have H := HA.out
  clear HA
  simp only [maskref4_LimitsFault.j0] at H
  by_cases c12 : x32_3 = true
  · subst c12
    have H1 : (some 3) = some r := by rw [if_pos rfl] at H; exact H
    clear H
    have H := H1
    clear H1
    obtain rfl := Option.some.inj H
    go_wp2
    go_ret
    exact ⟨by first | rfl | (simp [errW_none, errW_some] <;> rfl) | (simp [*, errW_none, errW_some] <;> rfl), bl⟩
  replace c12 := Bool.eq_false_iff.mpr c12
  subst c12
  have H1 : (maskref4_LimitsFault.l0 kj3 l0_1 (l0_1.length : Int) 0 a0_0 l0_1 l0_2 l0_3) = some r := by rw [if_neg (show ¬ (false = true) by decide)] at H; exact H
  clear H
  have H := H1
  clear H1
  have H' := Aside0.mk H
  clear H
  obtain ⟨hcz13_0, hcz13_1, hcz13_2, hcz13_3, hfz13_0, hfz13_1, hfz13_2, hfz13_3⟩ := bz4 BK329.out
  go_wp2
  go_loopg [36] kj3 (fun kq v36 w' => ∃ (x36_2 : Int), v36 = .int .i64 x36_2 ∧ Aside0 (maskref4_LimitsFault.l0 kq l0_1 (l0_1.length : Int) x36_2 a0_0 l0_1 l0_2 l0_3 = some r) ∧ Aside0 (kq ≤ kj3) ∧ Aside0 (w'.heap[gb329]? = some (.cells #[.int .i64 a0_0, (.slice A0_1 l0_1.length c0_1), (.slice A0_2 l0_2.length c0_2), (.slice A0_3 l0_3.length c0_3)] 37 (0, 0))) ∧ Aside0 (Below w.heap.size w w'))
  case atStart => exact ⟨(0), (by first | rfl | (simp; done) | (simp [*]; done)), H', ⟨Nat.le_refl _⟩, ⟨bk BK329.out⟩, ⟨bl⟩⟩
  clear H'
  clear hcz13_0 hcz13_1 hcz13_2 hcz13_3 hfz13_0 hfz13_1 hfz13_2 hfz13_3
  obtain ⟨x36_2, rfl, HA, HK2, BK329, HB⟩ := hrel
  cases gk with
  | zero => exact absurd HA.out (by simp [maskref4_LimitsFault.l0])
  | succ k2 =>
   have H := HA.out
   clear HA
   simp only [maskref4_LimitsFault.l0] at H
   by_cases c14 : x36_2 < (l0_1.length : Int)
   · rw [if_pos c14] at H
     have c14b0 : decide (x36_2 < (l0_1.length : Int)) = true := decide_eq_true c14
     clear c14
     by_cases c15 : 0 ≤ x36_2
     rotate_left
     · rw [if_neg c15] at H
       exact absurd H (by simp)
     rw [if_pos c15] at H
     have c15b0 : decide (0 ≤ x36_2) = true := decide_eq_true c15
     clear c15
     by_cases c16 : x36_2 < (l0_1.length : Int)
     rotate_left
     · rw [if_neg c16] at H
       exact absurd H (by simp)
     rw [if_pos c16] at H
     have c16b0 : decide (x36_2 < (l0_1.length : Int)) = true := decide_eq_true c16
     clear c16
     replace H := Option.bind_eq_some_iff.mp H
     obtain ⟨t333, A170, H⟩ := H
     replace H : (if t333 = true then (if ((rd_T78 l0_1 x36_2).f1.f0) < 0 then (maskref4_LimitsFault.j2 k2 x36_2 l0_1 (l0_1.length : Int) x36_2 true a0_0 l0_1 l0_2 l0_3 ((rd_T78 l0_1 x36_2).f0) ((rd_T78 l0_1 x36_2).f1.f0) ((rd_T78 l0_1 x36_2).f1.f1)) else (if ((rd_T78 l0_1 x36_2).f1.f0) > ((rd_T78 l0_1 x36_2).f1.f1) then (maskref4_LimitsFault.j2 k2 x36_2 l0_1 (l0_1.length : Int) x36_2 true a0_0 l0_1 l0_2 l0_3 ((rd_T78 l0_1 x36_2).f0) ((rd_T78 l0_1 x36_2).f1.f0) ((rd_T78 l0_1 x36_2).f1.f1)) else (maskref4_LimitsFault.j2 k2 x36_2 l0_1 (l0_1.length : Int) x36_2 (decide (((rd_T78 l0_1 x36_2).f1.f1) > 16777216)) a0_0 l0_1 l0_2 l0_3 ((rd_T78 l0_1 x36_2).f0) ((rd_T78 l0_1 x36_2).f1.f0) ((rd_T78 l0_1 x36_2).f1.f1)))) else (some 9)) = some r := H
     have A17 := Aside0.mk A170
     clear A170
     by_cases c18 : t333 = true
     rotate_left
     · replace c18 := Bool.eq_false_iff.mpr c18
       subst c18
       have H1 : (some 9) = some r := by rw [if_neg (show ¬ (false = true) by decide)] at H; exact H
       clear H
       have H := H1
       clear H1
       obtain rfl := Option.some.inj H
       have p331 : 0 ≤ (x36_2 : Int) := of_decide_eq_true (by first | (with_reducible assumption) | assumption)
       have q331 : x36_2 < (l0_1.length : Int) := of_decide_eq_true (by first | (with_reducible assumption) | assumption)
       obtain ⟨ad331, e331, hx331_0, hx331_1, hx331_2⟩ := at_T78 HR0_1.out x36_2 p331 q331
       cases e331
       replace hx331_0 := hc HB.out hx331_0
       replace hx331_1 := hc HB.out hx331_1
       replace hx331_2 := hc HB.out hx331_2
       replace p331 := eq_true p331
       replace q331 := eq_true q331
       go_wp2_with (first | ((with_reducible refine gate_dst (N := 4) rfl ?_); (try (refine gate_guard (by rfl) ?_; dsimp only)); refine box_event ?hg (N := 4) ?hd (cs := #[.string (⟨#[]⟩ : ByteArray), .int .i64 0, .int .i64 0]) (t := 78) ?hr ?_; (case hd => rfl); (case hg => rfl); (case hr => first | (go_simp; done) | (go_simp; rfl)); intro gb332 hg w53 hbox hb; have n0_ := Aside0.mk (bb BK329.out hb); have n1_ := Aside0.mk (below_step bl hb); have n2_ := Aside0.mk (hbox); have n3_ := Aside0.mk (ge (w := w) hg); have n4_ := Aside0.mk (ge (w := w) hg); have n5_ := Aside0.mk (nl hg (bk BK329.out)); have n6_ := Aside0.mk (ng hg (bk BK329.out)); clear BK329; clear HB; have HB := n1_; have BK332 := n2_; have GE332 := n4_; have NB329_332 := n5_; have NB332_329 := n6_; clear n0_ n1_ n2_ n3_ n4_ n5_ n6_; clear hb hbox hg; obtain ⟨hcz55_0, hcz55_1, hcz55_2, hfz55_0, hfz55_1, hfz55_2⟩ := bz3 BK332.out) | ((with_reducible refine gate_callee (f := 55) rfl ?_); refine goesL_ (some 43) rfl rfl Tryd.func55 (by kernel_rfl) rfl #[.string ((rd_T78 l0_1 x36_2).f0)] rfl (by (try simp only [List.map_toArray, List.map_cons, List.map_nil]); first | done | rfl | (simp only [List.length_drop, List.length_take]; rfl)) ?_; (with_reducible refine (maskref4_name.calls k2 ((rd_T78 l0_1 x36_2).f0) false _ A17.out).mono ?_); rintro e w' ⟨rfl, ⟨nd, rfl⟩⟩; refine ⟨_, rfl, ?_⟩))
       go_ret
       exact ⟨by first | rfl | (simp [errW_none, errW_some] <;> rfl) | (simp [*, errW_none, errW_some] <;> rfl), bl⟩
     subst c18
     have H1 : (if ((rd_T78 l0_1 x36_2).f1.f0) < 0 then (maskref4_LimitsFault.j2 k2 x36_2 l0_1 (l0_1.length : Int) x36_2 true a0_0 l0_1 l0_2 l0_3 ((rd_T78 l0_1 x36_2).f0) ((rd_T78 l0_1 x36_2).f1.f0) ((rd_T78 l0_1 x36_2).f1.f1)) else (if ((rd_T78 l0_1 x36_2).f1.f0) > ((rd_T78 l0_1 x36_2).f1.f1) then (maskref4_LimitsFault.j2 k2 x36_2 l0_1 (l0_1.length : Int) x36_2 true a0_0 l0_1 l0_2 l0_3 ((rd_T78 l0_1 x36_2).f0) ((rd_T78 l0_1 x36_2).f1.f0) ((rd_T78 l0_1 x36_2).f1.f1)) else (maskref4_LimitsFault.j2 k2 x36_2 l0_1 (l0_1.length : Int) x36_2 (decide (((rd_T78 l0_1 x36_2).f1.f1) > 16777216)) a0_0 l0_1 l0_2 l0_3 ((rd_T78 l0_1 x36_2).f0) ((rd_T78 l0_1 x36_2).f1.f0) ((rd_T78 l0_1 x36_2).f1.f1)))) = some r := by rw [if_pos rfl] at H; exact H
     clear H
     have H := H1
     clear H1
     have HC19 := Aside0.mk H
     clear H
     have p331 : 0 ≤ (x36_2 : Int) := of_decide_eq_true (by first | (with_reducible assumption) | assumption)
     have q331 : x36_2 < (l0_1.length : Int) := of_decide_eq_true (by first | (with_reducible assumption) | assumption)
     obtain ⟨ad331, e331, hx331_0, hx331_1, hx331_2⟩ := at_T78 HR0_1.out x36_2 p331 q331
     cases e331
     replace hx331_0 := hc HB.out hx331_0
     replace hx331_1 := hc HB.out hx331_1
     replace hx331_2 := hc HB.out hx331_2
     replace p331 := eq_true p331
     replace q331 := eq_true q331
     go_upto_region 10 with (first | ((with_reducible refine gate_dst (N := 4) rfl ?_); (try (refine gate_guard (by rfl) ?_; dsimp only)); refine box_event ?hg (N := 4) ?hd (cs := #[.string (⟨#[]⟩ : ByteArray), .int .i64 0, .int .i64 0]) (t := 78) ?hr ?_; (case hd => rfl); (case hg => rfl); (case hr => first | (go_simp; done) | (go_simp; rfl)); intro gb332 hg w20 hbox hb; have n0_ := Aside0.mk (bb BK329.out hb); have n1_ := Aside0.mk (below_step bl hb); have n2_ := Aside0.mk (hbox); have n3_ := Aside0.mk (ge (w := w) hg); have n4_ := Aside0.mk (ge (w := w) hg); have n5_ := Aside0.mk (nl hg (bk BK329.out)); have n6_ := Aside0.mk (ng hg (bk BK329.out)); clear BK329; clear HB; have BK329 := n0_; have HB := n1_; have BK332 := n2_; have GE332 := n4_; have NB329_332 := n5_; have NB332_329 := n6_; clear n0_ n1_ n2_ n3_ n4_ n5_ n6_; clear hb hbox hg; obtain ⟨hcz22_0, hcz22_1, hcz22_2, hfz22_0, hfz22_1, hfz22_2⟩ := bz3 BK332.out) | ((with_reducible refine gate_callee (f := 55) rfl ?_); refine goesL_ (some 43) rfl rfl Tryd.func55 (by kernel_rfl) rfl #[.string ((rd_T78 l0_1 x36_2).f0)] rfl (by (try simp only [List.map_toArray, List.map_cons, List.map_nil]); first | done | rfl | (simp only [List.length_drop, List.length_take]; rfl)) ?_; (with_reducible refine (maskref4_name.calls k2 ((rd_T78 l0_1 x36_2).f0) true _ A17.out).mono ?_); rintro e w' ⟨rfl, ⟨nd, rfl⟩⟩; refine ⟨_, rfl, ?_⟩))
     (try simp only [Act.put, List.setIfInBounds_toArray, List.set_cons_zero, List.set_cons_succ])
     go_cut [63] (fun v63 wc => ∃ (kq : Nat) (x63_18 : Bool), v63 = .bool x63_18 ∧ Aside0 (maskref4_LimitsFault.j2 kq x36_2 l0_1 (l0_1.length : Int) x36_2 x63_18 a0_0 l0_1 l0_2 l0_3 ((rd_T78 l0_1 x36_2).f0) ((rd_T78 l0_1 x36_2).f1.f0) ((rd_T78 l0_1 x36_2).f1.f1) = some r) ∧ Aside0 (kq ≤ k2) ∧ Aside0 (wc.heap[gb329]? = some (.cells #[.int .i64 a0_0, (.slice (some ad331) l0_1.length c0_1), (.slice A0_2 l0_2.length c0_2), (.slice A0_3 l0_3.length c0_3)] 37 (0, 0))) ∧ Aside0 (wc.heap[gb332]? = some (.cells #[.string ((rd_T78 l0_1 x36_2).f0), .int .i64 ((rd_T78 l0_1 x36_2).f1.f0), .int .i64 ((rd_T78 l0_1 x36_2).f1.f1)] 78 (0, 0))) ∧ Aside0 (Below w.heap.size w wc))
     case first =>
      have H := HC19.out
      clear HC19
      by_cases c23 : ((rd_T78 l0_1 x36_2).f1.f0) < 0
      · rw [if_pos c23] at H
        have c23b0 : decide (((rd_T78 l0_1 x36_2).f1.f0) < 0) = true := decide_eq_true c23
        clear c23
        (first | rw [c23b0] | (simp only [i64_w, i32_w]; rw [c23b0]) | skip)
        have H' := Aside0.mk H
        clear H
        go_wp2
        go_meet
        case rel => exact ⟨_, (true), (by first | rfl | (simp; done) | (simp [*]; done)), H', ⟨by have := HJ3.out; have := HK2.out; first | omega | exact Nat.le_refl _⟩, ⟨bf BK329.out⟩, ⟨by (with_reducible repeat (first | refine blk_drewN ?_ _ | refine blk_drew ?_ | refine blk_alloc ?_ _)); refine blk_put (cs := #[.string ((rd_T78 l0_1 x36_2).f0), .int .i64 ((rd_T78 l0_1 x36_2).f1.f0), .int .i64 0]) ?_ 2 _ rfl; (with_reducible repeat (first | refine blk_drewN ?_ _ | refine blk_drew ?_ | refine blk_alloc ?_ _)); refine blk_put (cs := #[.string ((rd_T78 l0_1 x36_2).f0), .int .i64 0, .int .i64 0]) ?_ 1 _ rfl; (with_reducible repeat (first | refine blk_drewN ?_ _ | refine blk_drew ?_ | refine blk_alloc ?_ _)); refine blk_put (cs := #[.string (⟨#[]⟩ : ByteArray), .int .i64 0, .int .i64 0]) ?_ 0 _ rfl; (with_reducible repeat (first | refine blk_drewN ?_ _ | refine blk_drew ?_ | refine blk_alloc ?_ _)); exact BK332.out⟩, ⟨bl⟩⟩
      rw [if_neg c23] at H
      have c23b0 : decide (((rd_T78 l0_1 x36_2).f1.f0) < 0) = false := decide_eq_false c23
      clear c23
      (first | rw [c23b0] | (simp only [i64_w, i32_w]; rw [c23b0]) | skip)
      by_cases c26 : ((rd_T78 l0_1 x36_2).f1.f0) > ((rd_T78 l0_1 x36_2).f1.f1)
      · rw [if_pos c26] at H
        have c26b0 : decide (((rd_T78 l0_1 x36_2).f1.f1) < ((rd_T78 l0_1 x36_2).f1.f0)) = true := decide_eq_true c26
        clear c26
        have H' := Aside0.mk H
        clear H
        go_wp2
        go_meet
        case rel => exact ⟨_, (true), (by first | rfl | (simp; done) | (simp [*]; done)), H', ⟨by have := HJ3.out; have := HK2.out; first | omega | exact Nat.le_refl _⟩, ⟨bf BK329.out⟩, ⟨by (with_reducible repeat (first | refine blk_drewN ?_ _ | refine blk_drew ?_ | refine blk_alloc ?_ _)); refine blk_put (cs := #[.string ((rd_T78 l0_1 x36_2).f0), .int .i64 ((rd_T78 l0_1 x36_2).f1.f0), .int .i64 0]) ?_ 2 _ rfl; (with_reducible repeat (first | refine blk_drewN ?_ _ | refine blk_drew ?_ | refine blk_alloc ?_ _)); refine blk_put (cs := #[.string ((rd_T78 l0_1 x36_2).f0), .int .i64 0, .int .i64 0]) ?_ 1 _ rfl; (with_reducible repeat (first | refine blk_drewN ?_ _ | refine blk_drew ?_ | refine blk_alloc ?_ _)); refine blk_put (cs := #[.string (⟨#[]⟩ : ByteArray), .int .i64 0, .int .i64 0]) ?_ 0 _ rfl; (with_reducible repeat (first | refine blk_drewN ?_ _ | refine blk_drew ?_ | refine blk_alloc ?_ _)); exact BK332.out⟩, ⟨bl⟩⟩
      rw [if_neg c26] at H
      have c26b0 : decide (((rd_T78 l0_1 x36_2).f1.f1) < ((rd_T78 l0_1 x36_2).f1.f0)) = false := decide_eq_false c26
      clear c26
      have H' := Aside0.mk H
      clear H
      go_wp2
      go_meet
      case rel => exact ⟨_, (decide (((rd_T78 l0_1 x36_2).f1.f1) > 16777216)), (by first | rfl | (simp; done) | (simp [*]; done)), H', ⟨by have := HJ3.out; have := HK2.out; first | omega | exact Nat.le_refl _⟩, ⟨bf BK329.out⟩, ⟨by (with_reducible repeat (first | refine blk_drewN ?_ _ | refine blk_drew ?_ | refine blk_alloc ?_ _)); refine blk_put (cs := #[.string ((rd_T78 l0_1 x36_2).f0), .int .i64 ((rd_T78 l0_1 x36_2).f1.f0), .int .i64 0]) ?_ 2 _ rfl; (with_reducible repeat (first | refine blk_drewN ?_ _ | refine blk_drew ?_ | refine blk_alloc ?_ _)); refine blk_put (cs := #[.string ((rd_T78 l0_1 x36_2).f0), .int .i64 0, .int .i64 0]) ?_ 1 _ rfl; (with_reducible repeat (first | refine blk_drewN ?_ _ | refine blk_drew ?_ | refine blk_alloc ?_ _)); refine blk_put (cs := #[.string (⟨#[]⟩ : ByteArray), .int .i64 0, .int .i64 0]) ?_ 0 _ rfl; (with_reducible repeat (first | refine blk_drewN ?_ _ | refine blk_drew ?_ | refine blk_alloc ?_ _)); exact BK332.out⟩, ⟨bl⟩⟩
     clear HC19
     clear c14b0 c15b0 c16b0 hcz22_0 hcz22_1 hcz22_2 hfz22_0 hfz22_1 hfz22_2 hx331_0 hx331_1 hx331_2 p331 q331
     obtain ⟨kq, x63_18, rfl, HA, HJ18, BK329, BK332, HB⟩ := hcut
     cases kq with
     | zero => exact absurd HA.out (by simp [maskref4_LimitsFault.j2])
     | succ kj18 =>
      have H := HA.out
      clear HA
      simp only [maskref4_LimitsFault.j2] at H
      by_cases c31 : x63_18 = true
      · subst c31
        have H1 : (some 2) = some r := by rw [if_pos rfl] at H; exact H
        clear H
        have H := H1
        clear H1
        obtain rfl := Option.some.inj H
        go_wp2
        go_ret
        exact ⟨by first | rfl | (simp [errW_none, errW_some] <;> rfl) | (simp [*, errW_none, errW_some] <;> rfl), bl⟩
      replace c31 := Bool.eq_false_iff.mpr c31
      subst c31
      have H1 : (if 0 ≤ x36_2 then (if x36_2 ≤ (l0_1.length : Int) then ((some (l0_1.take (x36_2 : Int).toNat : List (S78))).bind fun y334 => (maskref4_LimitsFault.l1 kj18 l0_1 (l0_1.length : Int) x36_2 y334 (y334.length : Int) 0 a0_0 l0_1 l0_2 l0_3 ((rd_T78 l0_1 x36_2).f0) ((rd_T78 l0_1 x36_2).f1.f0) ((rd_T78 l0_1 x36_2).f1.f1))) else (none)) else (none)) = some r := by rw [if_neg (show ¬ (false = true) by decide)] at H; exact H
      clear H
      have H := H1
      clear H1
      by_cases c32 : 0 ≤ x36_2
      rotate_left
      · rw [if_neg c32] at H
        exact absurd H (by simp)
      rw [if_pos c32] at H
      have c32b0 := eq_true c32
      have c32b1 : decide (0 ≤ x36_2) = true := decide_eq_true c32
      clear c32
      by_cases c33 : x36_2 ≤ (l0_1.length : Int)
      rotate_left
      · rw [if_neg c33] at H
        exact absurd H (by simp)
      rw [if_pos c33] at H
      have c33b0 := eq_true c33
      have c33b1 : decide (x36_2 ≤ (l0_1.length : Int)) = true := decide_eq_true c33
      clear c33
      obtain ⟨y334, hy334⟩ : ∃ y_ : List (S78), y_ = (l0_1.take (x36_2 : Int).toNat) := ⟨_, rfl⟩
      replace H : (maskref4_LimitsFault.l1 kj18 l0_1 (l0_1.length : Int) x36_2 y334 (y334.length : Int) 0 a0_0 l0_1 l0_2 l0_3 ((rd_T78 l0_1 x36_2).f0) ((rd_T78 l0_1 x36_2).f1.f0) ((rd_T78 l0_1 x36_2).f1.f1)) = some r := by first | (rw [hy334]; with_reducible exact H) | (have H2_ := (Option.bind_some _ _).symm.trans H; rw [hy334]; with_reducible exact H2_) | (have H2_ := (Option.bind_some _ _).symm.trans H; with_reducible exact H2_) | with_reducible exact H | (rw [hy334]; exact H) | exact H
      have Ny334 := Aside0.mk hy334
      clear hy334
      have H' := Aside0.mk H
      clear H
      obtain ⟨hcz35_0, hcz35_1, hcz35_2, hcz35_3, hfz35_0, hfz35_1, hfz35_2, hfz35_3⟩ := bz4 BK329.out
      have q36 : (x36_2 : Int) ≤ ((l0_1.length : Int) : Int) := of_decide_eq_true (by first | (with_reducible assumption) | assumption)
      obtain ⟨i036, hi036, _, hsz36, _⟩ := info_parts info78
      have hroom36 : l0_1.length ≤ c0_1 := HC0_1.out
      have hC36 : Kd.C k78 _ (some ad331) l0_1.length l0_1 := HR0_1.out
      have hcut36 := cut_to (P := Tryd.prog) 33 78 .i64 Tryd.underlying33 hi036 (some ad331) l0_1.length c0_1 x36_2 (of_decide_eq_true (by first | (with_reducible assumption) | assumption)) q36 hroom36
      have hr36 := Kd.C_take (m := (x36_2 : Int).toNat) hC36 (by omega)
      have hy36 : y334.length = (x36_2 : Int).toNat := (by rw [Ny334.out, List.length_take]; omega)
      rw [← Ny334.out] at hr36
      rw [← hy36] at hcut36
      have HR337 := Aside0.mk hr36
      clear hr36 hC36 hroom36 hi036 hsz36
      clear hy36
      replace q36 := eq_true q36
      go_wp2
      go_loopg [69] kj18 (fun kq v69 w' => ∃ (x69_4 : Int), v69 = .int .i64 x69_4 ∧ Aside0 (maskref4_LimitsFault.l1 kq l0_1 (l0_1.length : Int) x36_2 y334 (y334.length : Int) x69_4 a0_0 l0_1 l0_2 l0_3 ((rd_T78 l0_1 x36_2).f0) ((rd_T78 l0_1 x36_2).f1.f0) ((rd_T78 l0_1 x36_2).f1.f1) = some r) ∧ Aside0 (kq ≤ kj18) ∧ Aside0 (w'.heap[gb329]? = some (.cells #[.int .i64 a0_0, (.slice (some ad331) l0_1.length c0_1), (.slice A0_2 l0_2.length c0_2), (.slice A0_3 l0_3.length c0_3)] 37 (0, 0))) ∧ Aside0 (w'.heap[gb332]? = some (.cells #[.string ((rd_T78 l0_1 x36_2).f0), .int .i64 ((rd_T78 l0_1 x36_2).f1.f0), .int .i64 ((rd_T78 l0_1 x36_2).f1.f1)] 78 (0, 0))) ∧ Aside0 (Below w.heap.size w w'))
      case atStart => exact ⟨(0), (by first | rfl | (simp; done) | (simp [*]; done)), H', ⟨Nat.le_refl _⟩, ⟨bk BK329.out⟩, ⟨bk BK332.out⟩, ⟨bl⟩⟩
      clear H'
      clear c32b0 c32b1 c33b0 c33b1 q36 hcz35_0 hcz35_1 hcz35_2 hcz35_3 hfz35_0 hfz35_1 hfz35_2 hfz35_3
      obtain ⟨x69_4, rfl, HA, HK4, BK329, BK332, HB⟩ := hrel
      cases gk with
      | zero => exact absurd HA.out (by simp [maskref4_LimitsFault.l1])
      | succ k4 =>
       have H := HA.out
       clear HA
       simp only [maskref4_LimitsFault.l1] at H
       by_cases c37 : x69_4 < (y334.length : Int)
       rotate_left
       · rw [if_neg c37] at H
         have c37b0 : decide (x69_4 < (y334.length : Int)) = false := decide_eq_false c37
         clear c37
         have H' := Aside0.mk H
         clear H
         go_wp2
         go_roundg k4
         case measure => have := HJ3.out; have := HK2.out; have := HJ18.out; have := HK4.out; omega
         case rel => exact ⟨(wrap64 (x36_2 + 1)), (by first | rfl | (simp; done) | (simp [*]; done)), H', ⟨by have := HJ3.out; have := HK2.out; have := HJ18.out; have := HK4.out; omega⟩, ⟨bk BK329.out⟩, ⟨bl⟩⟩
       rw [if_pos c37] at H
       have c37b0 : decide (x69_4 < (y334.length : Int)) = true := decide_eq_true c37
       clear c37
       by_cases c38 : 0 ≤ x69_4
       rotate_left
       · rw [if_neg c38] at H
         exact absurd H (by simp)
       rw [if_pos c38] at H
       have c38b0 : decide (0 ≤ x69_4) = true := decide_eq_true c38
       clear c38
       by_cases c39 : x69_4 < (y334.length : Int)
       rotate_left
       · rw [if_neg c39] at H
         exact absurd H (by simp)
       rw [if_pos c39] at H
       have c39b0 : decide (x69_4 < (y334.length : Int)) = true := decide_eq_true c39
       clear c39
       by_cases c40 : ((rd_T78 l0_1 x36_2).f0).toList = ((rd_T78 y334 x69_4).f0).toList
       · rw [if_pos c40] at H
         have c40b0 : (((rd_T78 l0_1 x36_2).f0).toList == ((rd_T78 y334 x69_4).f0).toList) = true := beq_iff_eq.mpr c40
         clear c40
         obtain rfl := Option.some.inj H
         have p338 : 0 ≤ (x69_4 : Int) := of_decide_eq_true (by first | (with_reducible assumption) | assumption)
         have q338 : x69_4 < (y334.length : Int) := of_decide_eq_true (by first | (with_reducible assumption) | assumption)
         obtain ⟨ad338, e338, hx338_0, hx338_1, hx338_2⟩ := at_T78 HR337.out x69_4 p338 q338
         obtain rfl : ad331 = ad338 := (by injection e338)
         replace hx338_0 := hc HB.out hx338_0
         replace hx338_1 := hc HB.out hx338_1
         replace hx338_2 := hc HB.out hx338_2
         replace p338 := eq_true p338
         replace q338 := eq_true q338
         go_wp2_with ((with_reducible refine gate_dst (N := 6) rfl ?_); (try (refine gate_guard (by rfl) ?_; dsimp only)); refine box_event ?hg (N := 6) ?hd (cs := #[.string (⟨#[]⟩ : ByteArray), .int .i64 0, .int .i64 0]) (t := 78) ?hr ?_; (case hd => rfl); (case hg => rfl); (case hr => first | (go_simp; done) | (go_simp; rfl)); intro gb339 hg w41 hbox hb; have n0_ := Aside0.mk (bb BK329.out hb); have n1_ := Aside0.mk (bb BK332.out hb); have n2_ := Aside0.mk (below_step bl hb); have n3_ := Aside0.mk (hbox); have n4_ := Aside0.mk (ge (w := w) hg); have n5_ := Aside0.mk (ge (w := w) hg); have n6_ := Aside0.mk (nl hg (bk BK329.out)); have n7_ := Aside0.mk (ng hg (bk BK329.out)); have n8_ := Aside0.mk (nl hg (bk BK332.out)); have n9_ := Aside0.mk (ng hg (bk BK332.out)); clear BK329; clear BK332; clear HB; have BK332 := n1_; have HB := n2_; have BK339 := n3_; have GE339 := n5_; have NB329_339 := n6_; have NB339_329 := n7_; have NB332_339 := n8_; have NB339_332 := n9_; clear n0_ n1_ n2_ n3_ n4_ n5_ n6_ n7_ n8_ n9_; clear hb hbox hg; have hnc43 := NB332_339.out; obtain ⟨hcz44_0, hcz44_1, hcz44_2, hfz44_0, hfz44_1, hfz44_2⟩ := bz3 BK339.out; have hnb45 := NB332_329.out; have hnc45 := NB329_332.out; obtain ⟨hcz46_0, -, -, -, -, hfz46_2⟩ := bz3 BK332.out)
         go_ret
         exact ⟨by first | rfl | (simp [errW_none, errW_some] <;> rfl) | (simp [*, errW_none, errW_some] <;> rfl), bl⟩
       rw [if_neg c40] at H
       have c40b0 : (((rd_T78 l0_1 x36_2).f0).toList == ((rd_T78 y334 x69_4).f0).toList) = false := beq_eq_false_iff_ne.mpr c40
       have H' := Aside0.mk H
       clear H
       have p338 : 0 ≤ (x69_4 : Int) := of_decide_eq_true (by first | (with_reducible assumption) | assumption)
       have q338 : x69_4 < (y334.length : Int) := of_decide_eq_true (by first | (with_reducible assumption) | assumption)
       obtain ⟨ad338, e338, hx338_0, hx338_1, hx338_2⟩ := at_T78 HR337.out x69_4 p338 q338
       obtain rfl : ad331 = ad338 := (by injection e338)
       replace hx338_0 := hc HB.out hx338_0
       replace hx338_1 := hc HB.out hx338_1
       replace hx338_2 := hc HB.out hx338_2
       replace p338 := eq_true p338
       replace q338 := eq_true q338
       go_wp2_with ((with_reducible refine gate_dst (N := 6) rfl ?_); (try (refine gate_guard (by rfl) ?_; dsimp only)); refine box_event ?hg (N := 6) ?hd (cs := #[.string (⟨#[]⟩ : ByteArray), .int .i64 0, .int .i64 0]) (t := 78) ?hr ?_; (case hd => rfl); (case hg => rfl); (case hr => first | (go_simp; done) | (go_simp; rfl)); intro gb339 hg w47 hbox hb; have n0_ := Aside0.mk (bb BK329.out hb); have n1_ := Aside0.mk (bb BK332.out hb); have n2_ := Aside0.mk (below_step bl hb); have n3_ := Aside0.mk (hbox); have n4_ := Aside0.mk (ge (w := w) hg); have n5_ := Aside0.mk (ge (w := w) hg); have n6_ := Aside0.mk (nl hg (bk BK329.out)); have n7_ := Aside0.mk (ng hg (bk BK329.out)); have n8_ := Aside0.mk (nl hg (bk BK332.out)); have n9_ := Aside0.mk (ng hg (bk BK332.out)); clear BK329; clear BK332; clear HB; have BK329 := n0_; have BK332 := n1_; have HB := n2_; have BK339 := n3_; have GE339 := n5_; have NB329_339 := n6_; have NB339_329 := n7_; have NB332_339 := n8_; have NB339_332 := n9_; clear n0_ n1_ n2_ n3_ n4_ n5_ n6_ n7_ n8_ n9_; clear hb hbox hg; have hnc49 := NB332_339.out; obtain ⟨hcz50_0, hcz50_1, hcz50_2, hfz50_0, hfz50_1, hfz50_2⟩ := bz3 BK339.out; have hnb51 := NB332_329.out; have hnc51 := NB329_332.out; obtain ⟨hcz52_0, -, -, -, -, hfz52_2⟩ := bz3 BK332.out)
       go_roundg k4
       case measure => have := HJ3.out; have := HK2.out; have := HJ18.out; have := HK4.out; omega
       case rel => exact ⟨(wrap64 (x69_4 + 1)), (by first | rfl | (simp; done) | (simp [*]; done)), H', ⟨by have := HJ3.out; have := HK2.out; have := HJ18.out; have := HK4.out; omega⟩, ⟨bf BK329.out⟩, ⟨bf BK332.out⟩, ⟨bl⟩⟩
   rw [if_neg c14] at H
   have c14b0 : decide (x36_2 < (l0_1.length : Int)) = false := decide_eq_false c14
   clear c14
   have H' := Aside0.mk H
   clear H
   obtain ⟨hcz56_0, hcz56_1, hcz56_2, hcz56_3, hfz56_0, hfz56_1, hfz56_2, hfz56_3⟩ := bz4 BK329.out
   go_wp2
   go_loopg [83] k2 (fun kq v83 w' => ∃ (x83_3 : Int), v83 = .int .i64 x83_3 ∧ Aside0 (maskref4_LimitsFault.l2 kq l0_2 (l0_2.length : Int) x83_3 a0_0 l0_1 l0_2 l0_3 = some r) ∧ Aside0 (kq ≤ k2) ∧ Aside0 (w'.heap[gb329]? = some (.cells #[.int .i64 a0_0, (.slice A0_1 l0_1.length c0_1), (.slice A0_2 l0_2.length c0_2), (.slice A0_3 l0_3.length c0_3)] 37 (0, 0))) ∧ Aside0 (Below w.heap.size w w'))
   case atStart => exact ⟨(0), (by first | rfl | (simp; done) | (simp [*]; done)), H', ⟨Nat.le_refl _⟩, ⟨bk BK329.out⟩, ⟨bl⟩⟩
   clear H'
   clear c14b0 hcz56_0 hcz56_1 hcz56_2 hcz56_3 hfz56_0 hfz56_1 hfz56_2 hfz56_3
   obtain ⟨x83_3, rfl, HA, HK3, BK329, HB⟩ := hrel
   cases gk with
   | zero => exact absurd HA.out (by simp [maskref4_LimitsFault.l2])
   | succ k3 =>
    have H := HA.out
    clear HA
    simp only [maskref4_LimitsFault.l2] at H
    by_cases c57 : x83_3 < (l0_2.length : Int)
    · rw [if_pos c57] at H
      have c57b0 : decide (x83_3 < (l0_2.length : Int)) = true := decide_eq_true c57
      clear c57
      by_cases c58 : 0 ≤ x83_3
      rotate_left
      · rw [if_neg c58] at H
        exact absurd H (by simp)
      rw [if_pos c58] at H
      have c58b0 : decide (0 ≤ x83_3) = true := decide_eq_true c58
      clear c58
      by_cases c59 : x83_3 < (l0_2.length : Int)
      rotate_left
      · rw [if_neg c59] at H
        exact absurd H (by simp)
      rw [if_pos c59] at H
      have c59b0 : decide (x83_3 < (l0_2.length : Int)) = true := decide_eq_true c59
      clear c59
      replace H := Option.bind_eq_some_iff.mp H
      obtain ⟨t342, A600, H⟩ := H
      replace H : (if t342 = true then ((maskref4_In.f ((rd_T81 l0_2 x83_3).f1) 1 16777216).bind fun t343 => (if t343 = true then (if x83_3 ≤ (l0_2.length : Int) then ((some (l0_2.take (x83_3 : Int).toNat : List (S81))).bind fun y344 => (maskref4_LimitsFault.l3 k3 l0_2 (l0_2.length : Int) x83_3 y344 (y344.length : Int) 0 a0_0 l0_1 l0_2 l0_3 ((rd_T81 l0_2 x83_3).f0) ((rd_T81 l0_2 x83_3).f1))) else (none)) else (some 2))) else (some 9)) = some r := H
      have A60 := Aside0.mk A600
      clear A600
      by_cases c61 : t342 = true
      rotate_left
      · replace c61 := Bool.eq_false_iff.mpr c61
        subst c61
        have H1 : (some 9) = some r := by rw [if_neg (show ¬ (false = true) by decide)] at H; exact H
        clear H
        have H := H1
        clear H1
        obtain rfl := Option.some.inj H
        have p340 : 0 ≤ (x83_3 : Int) := of_decide_eq_true (by first | (with_reducible assumption) | assumption)
        have q340 : x83_3 < (l0_2.length : Int) := of_decide_eq_true (by first | (with_reducible assumption) | assumption)
        obtain ⟨ad340, e340, hx340_0, hx340_1⟩ := at_T81 HR0_2.out x83_3 p340 q340
        cases e340
        replace hx340_0 := hc HB.out hx340_0
        replace hx340_1 := hc HB.out hx340_1
        replace p340 := eq_true p340
        replace q340 := eq_true q340
        go_wp2_with (first | ((with_reducible refine gate_dst (N := 8) rfl ?_); (try (refine gate_guard (by rfl) ?_; dsimp only)); refine box_event ?hg (N := 8) ?hd (cs := #[.string (⟨#[]⟩ : ByteArray), .int .i64 0]) (t := 81) ?hr ?_; (case hd => rfl); (case hg => rfl); (case hr => first | (go_simp; done) | (go_simp; rfl)); intro gb341 hg w92 hbox hb; have n0_ := Aside0.mk (bb BK329.out hb); have n1_ := Aside0.mk (below_step bl hb); have n2_ := Aside0.mk (hbox); have n3_ := Aside0.mk (ge (w := w) hg); have n4_ := Aside0.mk (ge (w := w) hg); have n5_ := Aside0.mk (nl hg (bk BK329.out)); have n6_ := Aside0.mk (ng hg (bk BK329.out)); clear BK329; clear HB; have HB := n1_; have BK341 := n2_; have GE341 := n4_; have NB329_341 := n5_; have NB341_329 := n6_; clear n0_ n1_ n2_ n3_ n4_ n5_ n6_; clear hb hbox hg; obtain ⟨hcz94_0, hcz94_1, hfz94_0, hfz94_1⟩ := bz2 BK341.out) | ((with_reducible refine gate_callee (f := 55) rfl ?_); refine goesL_ (some 90) rfl rfl Tryd.func55 (by kernel_rfl) rfl #[.string ((rd_T81 l0_2 x83_3).f0)] rfl (by (try simp only [List.map_toArray, List.map_cons, List.map_nil]); first | done | rfl | (simp only [List.length_drop, List.length_take]; rfl)) ?_; (with_reducible refine (maskref4_name.calls k3 ((rd_T81 l0_2 x83_3).f0) false _ A60.out).mono ?_); rintro e w' ⟨rfl, ⟨nd, rfl⟩⟩; refine ⟨_, rfl, ?_⟩))
        go_ret
        exact ⟨by first | rfl | (simp [errW_none, errW_some] <;> rfl) | (simp [*, errW_none, errW_some] <;> rfl), bl⟩
      subst c61
      have H1 : ((maskref4_In.f ((rd_T81 l0_2 x83_3).f1) 1 16777216).bind fun t343 => (if t343 = true then (if x83_3 ≤ (l0_2.length : Int) then ((some (l0_2.take (x83_3 : Int).toNat : List (S81))).bind fun y344 => (maskref4_LimitsFault.l3 k3 l0_2 (l0_2.length : Int) x83_3 y344 (y344.length : Int) 0 a0_0 l0_1 l0_2 l0_3 ((rd_T81 l0_2 x83_3).f0) ((rd_T81 l0_2 x83_3).f1))) else (none)) else (some 2))) = some r := by rw [if_pos rfl] at H; exact H
      clear H
      have H := H1
      clear H1
      replace H := Option.bind_eq_some_iff.mp H
      obtain ⟨t343, A620, H⟩ := H
      replace H : (if t343 = true then (if x83_3 ≤ (l0_2.length : Int) then ((some (l0_2.take (x83_3 : Int).toNat : List (S81))).bind fun y344 => (maskref4_LimitsFault.l3 k3 l0_2 (l0_2.length : Int) x83_3 y344 (y344.length : Int) 0 a0_0 l0_1 l0_2 l0_3 ((rd_T81 l0_2 x83_3).f0) ((rd_T81 l0_2 x83_3).f1))) else (none)) else (some 2)) = some r := H
      have A62 := Aside0.mk A620
      clear A620
      by_cases c63 : t343 = true
      rotate_left
      · replace c63 := Bool.eq_false_iff.mpr c63
        subst c63
        have H1 : (some 2) = some r := by rw [if_neg (show ¬ (false = true) by decide)] at H; exact H
        clear H
        have H := H1
        clear H1
        obtain rfl := Option.some.inj H
        have p340 : 0 ≤ (x83_3 : Int) := of_decide_eq_true (by first | (with_reducible assumption) | assumption)
        have q340 : x83_3 < (l0_2.length : Int) := of_decide_eq_true (by first | (with_reducible assumption) | assumption)
        obtain ⟨ad340, e340, hx340_0, hx340_1⟩ := at_T81 HR0_2.out x83_3 p340 q340
        cases e340
        replace hx340_0 := hc HB.out hx340_0
        replace hx340_1 := hc HB.out hx340_1
        replace p340 := eq_true p340
        replace q340 := eq_true q340
        go_wp2_with (first | ((with_reducible refine gate_dst (N := 8) rfl ?_); (try (refine gate_guard (by rfl) ?_; dsimp only)); refine box_event ?hg (N := 8) ?hd (cs := #[.string (⟨#[]⟩ : ByteArray), .int .i64 0]) (t := 81) ?hr ?_; (case hd => rfl); (case hg => rfl); (case hr => first | (go_simp; done) | (go_simp; rfl)); intro gb341 hg w89 hbox hb; have n0_ := Aside0.mk (bb BK329.out hb); have n1_ := Aside0.mk (below_step bl hb); have n2_ := Aside0.mk (hbox); have n3_ := Aside0.mk (ge (w := w) hg); have n4_ := Aside0.mk (ge (w := w) hg); have n5_ := Aside0.mk (nl hg (bk BK329.out)); have n6_ := Aside0.mk (ng hg (bk BK329.out)); clear BK329; clear HB; have HB := n1_; have BK341 := n2_; have GE341 := n4_; have NB329_341 := n5_; have NB341_329 := n6_; clear n0_ n1_ n2_ n3_ n4_ n5_ n6_; clear hb hbox hg; obtain ⟨hcz91_0, hcz91_1, hfz91_0, hfz91_1⟩ := bz2 BK341.out) | ((with_reducible refine gate_callee (f := 55) rfl ?_); refine goesL_ (some 90) rfl rfl Tryd.func55 (by kernel_rfl) rfl #[.string ((rd_T81 l0_2 x83_3).f0)] rfl (by (try simp only [List.map_toArray, List.map_cons, List.map_nil]); first | done | rfl | (simp only [List.length_drop, List.length_take]; rfl)) ?_; (with_reducible refine (maskref4_name.calls k3 ((rd_T81 l0_2 x83_3).f0) true _ A60.out).mono ?_); rintro e w' ⟨rfl, ⟨nd, rfl⟩⟩; refine ⟨_, rfl, ?_⟩) | ((with_reducible refine gate_callee (f := 54) rfl ?_); refine goesL_ (some 94) rfl rfl Tryd.func54 (by kernel_rfl) rfl #[.int .i64 ((rd_T81 l0_2 x83_3).f1), .int .i64 1, .int .i64 16777216] rfl (by (try simp only [List.map_toArray, List.map_cons, List.map_nil]); first | done | rfl | (simp only [List.length_drop, List.length_take]; rfl)) ?_; (with_reducible refine (maskref4_In.calls ((rd_T81 l0_2 x83_3).f1) 1 16777216 false _ A62.out).mono ?_); rintro e w' ⟨rfl, ⟨nd, rfl⟩⟩; refine ⟨_, rfl, ?_⟩))
        go_ret
        exact ⟨by first | rfl | (simp [errW_none, errW_some] <;> rfl) | (simp [*, errW_none, errW_some] <;> rfl), bl⟩
      subst c63
      have H1 : (if x83_3 ≤ (l0_2.length : Int) then ((some (l0_2.take (x83_3 : Int).toNat : List (S81))).bind fun y344 => (maskref4_LimitsFault.l3 k3 l0_2 (l0_2.length : Int) x83_3 y344 (y344.length : Int) 0 a0_0 l0_1 l0_2 l0_3 ((rd_T81 l0_2 x83_3).f0) ((rd_T81 l0_2 x83_3).f1))) else (none)) = some r := by rw [if_pos rfl] at H; exact H
      clear H
      have H := H1
      clear H1
      have c64b0 := eq_true (of_decide_eq_true (by first | (with_reducible assumption) | assumption) : 0 ≤ x83_3)
      by_cases c65 : x83_3 ≤ (l0_2.length : Int)
      rotate_left
      · rw [if_neg c65] at H
        exact absurd H (by simp)
      rw [if_pos c65] at H
      have c65b0 := eq_true c65
      have c65b1 : decide (x83_3 ≤ (l0_2.length : Int)) = true := decide_eq_true c65
      clear c65
      obtain ⟨y344, hy344⟩ : ∃ y_ : List (S81), y_ = (l0_2.take (x83_3 : Int).toNat) := ⟨_, rfl⟩
      replace H : (maskref4_LimitsFault.l3 k3 l0_2 (l0_2.length : Int) x83_3 y344 (y344.length : Int) 0 a0_0 l0_1 l0_2 l0_3 ((rd_T81 l0_2 x83_3).f0) ((rd_T81 l0_2 x83_3).f1)) = some r := by first | (rw [hy344]; with_reducible exact H) | (have H2_ := (Option.bind_some _ _).symm.trans H; rw [hy344]; with_reducible exact H2_) | (have H2_ := (Option.bind_some _ _).symm.trans H; with_reducible exact H2_) | with_reducible exact H | (rw [hy344]; exact H) | exact H
      have Ny344 := Aside0.mk hy344
      clear hy344
      have H' := Aside0.mk H
      clear H
      have p340 : 0 ≤ (x83_3 : Int) := of_decide_eq_true (by first | (with_reducible assumption) | assumption)
      have q340 : x83_3 < (l0_2.length : Int) := of_decide_eq_true (by first | (with_reducible assumption) | assumption)
      obtain ⟨ad340, e340, hx340_0, hx340_1⟩ := at_T81 HR0_2.out x83_3 p340 q340
      cases e340
      replace hx340_0 := hc HB.out hx340_0
      replace hx340_1 := hc HB.out hx340_1
      replace p340 := eq_true p340
      replace q340 := eq_true q340
      go_wp2_with (first | ((with_reducible refine gate_dst (N := 8) rfl ?_); (try (refine gate_guard (by rfl) ?_; dsimp only)); refine box_event ?hg (N := 8) ?hd (cs := #[.string (⟨#[]⟩ : ByteArray), .int .i64 0]) (t := 81) ?hr ?_; (case hd => rfl); (case hg => rfl); (case hr => first | (go_simp; done) | (go_simp; rfl)); intro gb341 hg w66 hbox hb; have n0_ := Aside0.mk (bb BK329.out hb); have n1_ := Aside0.mk (below_step bl hb); have n2_ := Aside0.mk (hbox); have n3_ := Aside0.mk (ge (w := w) hg); have n4_ := Aside0.mk (ge (w := w) hg); have n5_ := Aside0.mk (nl hg (bk BK329.out)); have n6_ := Aside0.mk (ng hg (bk BK329.out)); clear BK329; clear HB; have BK329 := n0_; have HB := n1_; have BK341 := n2_; have GE341 := n4_; have NB329_341 := n5_; have NB341_329 := n6_; clear n0_ n1_ n2_ n3_ n4_ n5_ n6_; clear hb hbox hg; obtain ⟨hcz68_0, hcz68_1, hfz68_0, hfz68_1⟩ := bz2 BK341.out) | ((with_reducible refine gate_store (t := 81) (p := 8) rfl ?_); refine store_event (t := 81) (p := 8) (v := ?vo_w69) (w1 := ((w66.setCell ⟨gb341, 0, none⟩ (.string ((rd_T81 l0_2 x83_3).f0))).setCell ⟨gb341, 1, none⟩ (.int .i64 ((rd_T81 l0_2 x83_3).f1)))) ?hg ?ho ?hn ?hr ?_; (case ho => rfl); (case hg => rfl); (case hn => rfl); (case hr => first | (go_simp; done) | (go_simp; rfl)); intro w69 hw; have n0_ : Aside0 (w69.heap[gb329]? = some (.cells #[.int .i64 a0_0, .slice A0_1 l0_1.length c0_1, .slice (some ad340) l0_2.length c0_2, .slice A0_3 l0_3.length c0_3] 37 (0, 0))) := ⟨(by rw [hw]; exact (bf BK329.out))⟩; have n1_ : Aside0 (w69.heap[gb341]? = some (.cells #[.string ((rd_T81 l0_2 x83_3).f0), .int .i64 ((rd_T81 l0_2 x83_3).f1)] 81 (0, 0))) := ⟨(by rw [hw]; exact (by (with_reducible repeat (first | refine blk_drewN ?_ _ | refine blk_drew ?_ | refine blk_alloc ?_ _)); refine blk_put (cs := #[.string ((rd_T81 l0_2 x83_3).f0), .int .i64 0]) ?_ 1 _ rfl; (with_reducible repeat (first | refine blk_drewN ?_ _ | refine blk_drew ?_ | refine blk_alloc ?_ _)); refine blk_put (cs := #[.string (⟨#[]⟩ : ByteArray), .int .i64 0]) ?_ 0 _ rfl; (with_reducible repeat (first | refine blk_drewN ?_ _ | refine blk_drew ?_ | refine blk_alloc ?_ _)); exact BK341.out))⟩; have n2_ : Aside0 (Below w.heap.size w w69) := ⟨(by rw [hw]; exact bl)⟩; clear hw; clear BK329; clear BK341; clear HB; have BK329 := n0_; have BK341 := n1_; have HB := n2_; clear n0_ n1_ n2_; obtain ⟨hcz70_0, hcz70_1, hfz70_0, hfz70_1⟩ := bz2 BK341.out) | ((with_reducible refine gate_callee (f := 55) rfl ?_); refine goesL_ (some 90) rfl rfl Tryd.func55 (by kernel_rfl) rfl #[.string ((rd_T81 l0_2 x83_3).f0)] rfl (by (try simp only [List.map_toArray, List.map_cons, List.map_nil]); first | done | rfl | (simp only [List.length_drop, List.length_take]; rfl)) ?_; (with_reducible refine (maskref4_name.calls k3 ((rd_T81 l0_2 x83_3).f0) true _ A60.out).mono ?_); rintro e w' ⟨rfl, ⟨nd, rfl⟩⟩; refine ⟨_, rfl, ?_⟩) | ((with_reducible refine gate_callee (f := 54) rfl ?_); refine goesL_ (some 94) rfl rfl Tryd.func54 (by kernel_rfl) rfl #[.int .i64 ((rd_T81 l0_2 x83_3).f1), .int .i64 1, .int .i64 16777216] rfl (by (try simp only [List.map_toArray, List.map_cons, List.map_nil]); first | done | rfl | (simp only [List.length_drop, List.length_take]; rfl)) ?_; (with_reducible refine (maskref4_In.calls ((rd_T81 l0_2 x83_3).f1) 1 16777216 true _ A62.out).mono ?_); rintro e w' ⟨rfl, ⟨nd, rfl⟩⟩; refine ⟨_, rfl, ?_⟩; obtain ⟨hcz71_0, hcz71_1, hcz71_2, hcz71_3, hfz71_0, hfz71_1, hfz71_2, hfz71_3⟩ := bz4 BK329.out; have q72 : (x83_3 : Int) ≤ ((l0_2.length : Int) : Int) := of_decide_eq_true (by first | (with_reducible assumption) | assumption); obtain ⟨i072, hi072, _, hsz72, _⟩ := info_parts info81; have hroom72 : l0_2.length ≤ c0_2 := HC0_2.out; have hC72 : Kd.C k81 _ (some ad340) l0_2.length l0_2 := HR0_2.out; have hcut72 := cut_to (P := Tryd.prog) 34 81 .i64 Tryd.underlying34 hi072 (some ad340) l0_2.length c0_2 x83_3 (of_decide_eq_true (by first | (with_reducible assumption) | assumption)) q72 hroom72; have hr72 := Kd.C_take (m := (x83_3 : Int).toNat) hC72 (by omega); have hy72 : y344.length = (x83_3 : Int).toNat := (by rw [Ny344.out, List.length_take]; omega); rw [← Ny344.out] at hr72; rw [← hy72] at hcut72; have HR347 := Aside0.mk hr72; clear hr72 hC72 hroom72 hi072 hsz72; clear hy72; replace q72 := eq_true q72))
      go_loopg [101] k3 (fun kq v101 w' => ∃ (x101_4 : Int), v101 = .int .i64 x101_4 ∧ Aside0 (maskref4_LimitsFault.l3 kq l0_2 (l0_2.length : Int) x83_3 y344 (y344.length : Int) x101_4 a0_0 l0_1 l0_2 l0_3 ((rd_T81 l0_2 x83_3).f0) ((rd_T81 l0_2 x83_3).f1) = some r) ∧ Aside0 (kq ≤ k3) ∧ Aside0 (w'.heap[gb329]? = some (.cells #[.int .i64 a0_0, (.slice A0_1 l0_1.length c0_1), (.slice (some ad340) l0_2.length c0_2), (.slice A0_3 l0_3.length c0_3)] 37 (0, 0))) ∧ Aside0 (w'.heap[gb341]? = some (.cells #[.string ((rd_T81 l0_2 x83_3).f0), .int .i64 ((rd_T81 l0_2 x83_3).f1)] 81 (0, 0))) ∧ Aside0 (Below w.heap.size w w'))
      case atStart => exact ⟨(0), (by first | rfl | (simp; done) | (simp [*]; done)), H', ⟨Nat.le_refl _⟩, ⟨bk BK329.out⟩, ⟨bk BK341.out⟩, ⟨bl⟩⟩
      clear H'
      clear c57b0 c58b0 c59b0 c64b0 c65b0 c65b1 q72 hcz68_0 hcz68_1 hcz70_0 hcz70_1 hcz71_0 hcz71_1 hcz71_2 hcz71_3 hfz68_0 hfz68_1 hfz70_0 hfz70_1 hfz71_0 hfz71_1 hfz71_2 hfz71_3 hx340_0 hx340_1 p340 q340
      obtain ⟨x101_4, rfl, HA, HK4, BK329, BK341, HB⟩ := hrel
      cases gk with
      | zero => exact absurd HA.out (by simp [maskref4_LimitsFault.l3])
      | succ k4 =>
       have H := HA.out
       clear HA
       simp only [maskref4_LimitsFault.l3] at H
       by_cases c73 : x101_4 < (y344.length : Int)
       rotate_left
       · rw [if_neg c73] at H
         have c73b0 : decide (x101_4 < (y344.length : Int)) = false := decide_eq_false c73
         clear c73
         have H' := Aside0.mk H
         clear H
         go_wp2
         go_roundg k4
         case measure => have := HJ3.out; have := HK2.out; have := HK3.out; have := HK4.out; omega
         case rel => exact ⟨(wrap64 (x83_3 + 1)), (by first | rfl | (simp; done) | (simp [*]; done)), H', ⟨by have := HJ3.out; have := HK2.out; have := HK3.out; have := HK4.out; omega⟩, ⟨bk BK329.out⟩, ⟨bl⟩⟩
       rw [if_pos c73] at H
       have c73b0 : decide (x101_4 < (y344.length : Int)) = true := decide_eq_true c73
       clear c73
       by_cases c74 : 0 ≤ x101_4
       rotate_left
       · rw [if_neg c74] at H
         exact absurd H (by simp)
       rw [if_pos c74] at H
       have c74b0 : decide (0 ≤ x101_4) = true := decide_eq_true c74
       clear c74
       by_cases c75 : x101_4 < (y344.length : Int)
       rotate_left
       · rw [if_neg c75] at H
         exact absurd H (by simp)
       rw [if_pos c75] at H
       have c75b0 : decide (x101_4 < (y344.length : Int)) = true := decide_eq_true c75
       clear c75
       by_cases c76 : ((rd_T81 l0_2 x83_3).f0).toList = ((rd_T81 y344 x101_4).f0).toList
       · rw [if_pos c76] at H
         have c76b0 : (((rd_T81 l0_2 x83_3).f0).toList == ((rd_T81 y344 x101_4).f0).toList) = true := beq_iff_eq.mpr c76
         clear c76
         obtain rfl := Option.some.inj H
         have p348 : 0 ≤ (x101_4 : Int) := of_decide_eq_true (by first | (with_reducible assumption) | assumption)
         have q348 : x101_4 < (y344.length : Int) := of_decide_eq_true (by first | (with_reducible assumption) | assumption)
         obtain ⟨ad348, e348, hx348_0, hx348_1⟩ := at_T81 HR347.out x101_4 p348 q348
         obtain rfl : ad340 = ad348 := (by injection e348)
         replace hx348_0 := hc HB.out hx348_0
         replace hx348_1 := hc HB.out hx348_1
         replace p348 := eq_true p348
         replace q348 := eq_true q348
         go_wp2_with ((with_reducible refine gate_dst (N := 10) rfl ?_); (try (refine gate_guard (by rfl) ?_; dsimp only)); refine box_event ?hg (N := 10) ?hd (cs := #[.string (⟨#[]⟩ : ByteArray), .int .i64 0]) (t := 81) ?hr ?_; (case hd => rfl); (case hg => rfl); (case hr => first | (go_simp; done) | (go_simp; rfl)); intro gb349 hg w77 hbox hb; have n0_ := Aside0.mk (bb BK329.out hb); have n1_ := Aside0.mk (bb BK341.out hb); have n2_ := Aside0.mk (below_step bl hb); have n3_ := Aside0.mk (hbox); have n4_ := Aside0.mk (ge (w := w) hg); have n5_ := Aside0.mk (ge (w := w) hg); have n6_ := Aside0.mk (nl hg (bk BK329.out)); have n7_ := Aside0.mk (ng hg (bk BK329.out)); have n8_ := Aside0.mk (nl hg (bk BK341.out)); have n9_ := Aside0.mk (ng hg (bk BK341.out)); clear BK329; clear BK341; clear HB; have BK341 := n1_; have HB := n2_; have BK349 := n3_; have GE349 := n5_; have NB329_349 := n6_; have NB349_329 := n7_; have NB341_349 := n8_; have NB349_341 := n9_; clear n0_ n1_ n2_ n3_ n4_ n5_ n6_ n7_ n8_ n9_; clear hb hbox hg; have hnc79 := NB341_349.out; obtain ⟨hcz80_0, hcz80_1, hfz80_0, hfz80_1⟩ := bz2 BK349.out; have hnb81 := NB341_329.out; have hnc81 := NB329_341.out; obtain ⟨hcz82_0, -, -, hfz82_1⟩ := bz2 BK341.out)
         go_ret
         exact ⟨by first | rfl | (simp [errW_none, errW_some] <;> rfl) | (simp [*, errW_none, errW_some] <;> rfl), bl⟩
       rw [if_neg c76] at H
       have c76b0 : (((rd_T81 l0_2 x83_3).f0).toList == ((rd_T81 y344 x101_4).f0).toList) = false := beq_eq_false_iff_ne.mpr c76
       have H' := Aside0.mk H
       clear H
       have p348 : 0 ≤ (x101_4 : Int) := of_decide_eq_true (by first | (with_reducible assumption) | assumption)
       have q348 : x101_4 < (y344.length : Int) := of_decide_eq_true (by first | (with_reducible assumption) | assumption)
       obtain ⟨ad348, e348, hx348_0, hx348_1⟩ := at_T81 HR347.out x101_4 p348 q348
       obtain rfl : ad340 = ad348 := (by injection e348)
       replace hx348_0 := hc HB.out hx348_0
       replace hx348_1 := hc HB.out hx348_1
       replace p348 := eq_true p348
       replace q348 := eq_true q348
       go_wp2_with ((with_reducible refine gate_dst (N := 10) rfl ?_); (try (refine gate_guard (by rfl) ?_; dsimp only)); refine box_event ?hg (N := 10) ?hd (cs := #[.string (⟨#[]⟩ : ByteArray), .int .i64 0]) (t := 81) ?hr ?_; (case hd => rfl); (case hg => rfl); (case hr => first | (go_simp; done) | (go_simp; rfl)); intro gb349 hg w83 hbox hb; have n0_ := Aside0.mk (bb BK329.out hb); have n1_ := Aside0.mk (bb BK341.out hb); have n2_ := Aside0.mk (below_step bl hb); have n3_ := Aside0.mk (hbox); have n4_ := Aside0.mk (ge (w := w) hg); have n5_ := Aside0.mk (ge (w := w) hg); have n6_ := Aside0.mk (nl hg (bk BK329.out)); have n7_ := Aside0.mk (ng hg (bk BK329.out)); have n8_ := Aside0.mk (nl hg (bk BK341.out)); have n9_ := Aside0.mk (ng hg (bk BK341.out)); clear BK329; clear BK341; clear HB; have BK329 := n0_; have BK341 := n1_; have HB := n2_; have BK349 := n3_; have GE349 := n5_; have NB329_349 := n6_; have NB349_329 := n7_; have NB341_349 := n8_; have NB349_341 := n9_; clear n0_ n1_ n2_ n3_ n4_ n5_ n6_ n7_ n8_ n9_; clear hb hbox hg; have hnc85 := NB341_349.out; obtain ⟨hcz86_0, hcz86_1, hfz86_0, hfz86_1⟩ := bz2 BK349.out; have hnb87 := NB341_329.out; have hnc87 := NB329_341.out; obtain ⟨hcz88_0, -, -, hfz88_1⟩ := bz2 BK341.out)
       go_roundg k4
       case measure => have := HJ3.out; have := HK2.out; have := HK3.out; have := HK4.out; omega
       case rel => exact ⟨(wrap64 (x101_4 + 1)), (by first | rfl | (simp; done) | (simp [*]; done)), H', ⟨by have := HJ3.out; have := HK2.out; have := HK3.out; have := HK4.out; omega⟩, ⟨bf BK329.out⟩, ⟨bf BK341.out⟩, ⟨bl⟩⟩
    rw [if_neg c57] at H
    have c57b0 : decide (x83_3 < (l0_2.length : Int)) = false := decide_eq_false c57
    clear c57
    have H' := Aside0.mk H
    clear H
    obtain ⟨hcz95_0, hcz95_1, hcz95_2, hcz95_3, hfz95_0, hfz95_1, hfz95_2, hfz95_3⟩ := bz4 BK329.out
    go_wp2
    go_loopg [115] k3 (fun kq v115 w' => ∃ (x115_4 : Int), v115 = .int .i64 x115_4 ∧ Aside0 (maskref4_LimitsFault.l4 kq l0_3 (l0_3.length : Int) x115_4 = some r) ∧ Aside0 (kq ≤ k3) ∧ Aside0 (w'.heap[gb329]? = some (.cells #[.int .i64 a0_0, (.slice A0_1 l0_1.length c0_1), (.slice A0_2 l0_2.length c0_2), (.slice A0_3 l0_3.length c0_3)] 37 (0, 0))) ∧ Aside0 (Below w.heap.size w w'))
    case atStart => exact ⟨(0), (by first | rfl | (simp; done) | (simp [*]; done)), H', ⟨Nat.le_refl _⟩, ⟨bk BK329.out⟩, ⟨bl⟩⟩
    clear H'
    clear c57b0 hcz95_0 hcz95_1 hcz95_2 hcz95_3 hfz95_0 hfz95_1 hfz95_2 hfz95_3
    obtain ⟨x115_4, rfl, HA, HK4, BK329, HB⟩ := hrel
    cases gk with
    | zero => exact absurd HA.out (by simp [maskref4_LimitsFault.l4])
    | succ k4 =>
     have H := HA.out
     clear HA
     simp only [maskref4_LimitsFault.l4] at H
     by_cases c96 : x115_4 < (l0_3.length : Int)
     rotate_left
     · rw [if_neg c96] at H
       have c96b0 : decide (x115_4 < (l0_3.length : Int)) = false := decide_eq_false c96
       clear c96
       obtain rfl := Option.some.inj H
       go_wp2
       go_ret
       exact ⟨by first | rfl | (simp [errW_none, errW_some] <;> rfl) | (simp [*, errW_none, errW_some] <;> rfl), bl⟩
     rw [if_pos c96] at H
     have c96b0 : decide (x115_4 < (l0_3.length : Int)) = true := decide_eq_true c96
     clear c96
     by_cases c97 : 0 ≤ x115_4
     rotate_left
     · rw [if_neg c97] at H
       exact absurd H (by simp)
     rw [if_pos c97] at H
     have c97b0 : decide (0 ≤ x115_4) = true := decide_eq_true c97
     clear c97
     by_cases c98 : x115_4 < (l0_3.length : Int)
     rotate_left
     · rw [if_neg c98] at H
       exact absurd H (by simp)
     rw [if_pos c98] at H
     have c98b0 : decide (x115_4 < (l0_3.length : Int)) = true := decide_eq_true c98
     clear c98
     have HC99 := Aside0.mk H
     clear H
     have p350 : 0 ≤ (x115_4 : Int) := of_decide_eq_true (by first | (with_reducible assumption) | assumption)
     have q350 : x115_4 < (l0_3.length : Int) := of_decide_eq_true (by first | (with_reducible assumption) | assumption)
     obtain ⟨ad350, e350, hx350_0, hx350_1, hx350_2⟩ := at_T83 HR0_3.out x115_4 p350 q350
     cases e350
     replace hx350_0 := hc HB.out hx350_0
     replace hx350_1 := hc HB.out hx350_1
     replace hx350_2 := hc HB.out hx350_2
     replace p350 := eq_true p350
     replace q350 := eq_true q350
     go_upto_region 36 with (first | ((with_reducible refine gate_dst (N := 12) rfl ?_); (try (refine gate_guard (by rfl) ?_; dsimp only)); refine box_event ?hg (N := 12) ?hd (cs := #[.string (⟨#[]⟩ : ByteArray), .string (⟨#[]⟩ : ByteArray), .int .i64 0]) (t := 83) ?hr ?_; (case hd => rfl); (case hg => rfl); (case hr => first | (go_simp; done) | (go_simp; rfl)); intro gb351 hg w100 hbox hb; have n0_ := Aside0.mk (bb BK329.out hb); have n1_ := Aside0.mk (below_step bl hb); have n2_ := Aside0.mk (hbox); have n3_ := Aside0.mk (ge (w := w) hg); have n4_ := Aside0.mk (ge (w := w) hg); have n5_ := Aside0.mk (nl hg (bk BK329.out)); have n6_ := Aside0.mk (ng hg (bk BK329.out)); clear BK329; clear HB; have BK329 := n0_; have HB := n1_; have BK351 := n2_; have GE351 := n4_; have NB329_351 := n5_; have NB351_329 := n6_; clear n0_ n1_ n2_ n3_ n4_ n5_ n6_; clear hb hbox hg; obtain ⟨hcz102_0, hcz102_1, hcz102_2, hfz102_0, hfz102_1, hfz102_2⟩ := bz3 BK351.out))
     (try simp only [Act.put, List.setIfInBounds_toArray, List.set_cons_zero, List.set_cons_succ])
     go_cut [128] (fun v128 wc => ∃ (kq : Nat) (x128_98 : Bool), v128 = .bool x128_98 ∧ Aside0 (maskref4_LimitsFault.j7 kq l0_3 (l0_3.length : Int) x115_4 x128_98 ((rd_T83 l0_3 x115_4).f0) ((rd_T83 l0_3 x115_4).f1) ((rd_T83 l0_3 x115_4).f2) = some r) ∧ Aside0 (kq ≤ k4) ∧ Aside0 (wc.heap[gb329]? = some (.cells #[.int .i64 a0_0, (.slice A0_1 l0_1.length c0_1), (.slice A0_2 l0_2.length c0_2), (.slice (some ad350) l0_3.length c0_3)] 37 (0, 0))) ∧ Aside0 (wc.heap[gb351]? = some (.cells #[.string ((rd_T83 l0_3 x115_4).f0), .string ((rd_T83 l0_3 x115_4).f1), .int .i64 ((rd_T83 l0_3 x115_4).f2)] 83 (0, 0))) ∧ Aside0 (Below w.heap.size w wc))
     case first =>
      have H := HC99.out
      clear HC99
      replace H := Option.bind_eq_some_iff.mp H
      obtain ⟨t352, A1030, H⟩ := H
      replace H : (if t352 = true then ((maskref4_Printed.f k4 ((rd_T83 l0_3 x115_4).f1)).bind fun t353 => (maskref4_LimitsFault.j7 k4 l0_3 (l0_3.length : Int) x115_4 (!t353) ((rd_T83 l0_3 x115_4).f0) ((rd_T83 l0_3 x115_4).f1) ((rd_T83 l0_3 x115_4).f2))) else (maskref4_LimitsFault.j7 k4 l0_3 (l0_3.length : Int) x115_4 true ((rd_T83 l0_3 x115_4).f0) ((rd_T83 l0_3 x115_4).f1) ((rd_T83 l0_3 x115_4).f2))) = some r := H
      have A103 := Aside0.mk A1030
      clear A1030
      by_cases c104 : t352 = true
      rotate_left
      · replace c104 := Bool.eq_false_iff.mpr c104
        subst c104
        have H1 : (maskref4_LimitsFault.j7 k4 l0_3 (l0_3.length : Int) x115_4 true ((rd_T83 l0_3 x115_4).f0) ((rd_T83 l0_3 x115_4).f1) ((rd_T83 l0_3 x115_4).f2)) = some r := by rw [if_neg (show ¬ (false = true) by decide)] at H; exact H
        clear H
        have H := H1
        clear H1
        have H' := Aside0.mk H
        clear H
        go_wp2_with ((with_reducible refine gate_callee (f := 56) rfl ?_); refine goesL_ (some 121) rfl rfl Tryd.func56 (by kernel_rfl) rfl #[.string ((rd_T83 l0_3 x115_4).f0)] rfl (by (try simp only [List.map_toArray, List.map_cons, List.map_nil]); first | done | rfl | (simp only [List.length_drop, List.length_take]; rfl)) ?_; (with_reducible refine (maskref4_Printed.calls k4 ((rd_T83 l0_3 x115_4).f0) false _ A103.out).mono ?_); rintro e w' ⟨rfl, ⟨nd, rfl⟩⟩; refine ⟨_, rfl, ?_⟩)
        go_meet
        case rel => exact ⟨_, (true), (by first | rfl | (simp; done) | (simp [*]; done)), H', ⟨by have := HJ3.out; have := HK2.out; have := HK3.out; have := HK4.out; first | omega | exact Nat.le_refl _⟩, ⟨bf BK329.out⟩, ⟨by (with_reducible repeat (first | refine blk_drewN ?_ _ | refine blk_drew ?_ | refine blk_alloc ?_ _)); refine blk_put (cs := #[.string ((rd_T83 l0_3 x115_4).f0), .string ((rd_T83 l0_3 x115_4).f1), .int .i64 0]) ?_ 2 _ rfl; (with_reducible repeat (first | refine blk_drewN ?_ _ | refine blk_drew ?_ | refine blk_alloc ?_ _)); refine blk_put (cs := #[.string ((rd_T83 l0_3 x115_4).f0), .string (⟨#[]⟩ : ByteArray), .int .i64 0]) ?_ 1 _ rfl; (with_reducible repeat (first | refine blk_drewN ?_ _ | refine blk_drew ?_ | refine blk_alloc ?_ _)); refine blk_put (cs := #[.string (⟨#[]⟩ : ByteArray), .string (⟨#[]⟩ : ByteArray), .int .i64 0]) ?_ 0 _ rfl; (with_reducible repeat (first | refine blk_drewN ?_ _ | refine blk_drew ?_ | refine blk_alloc ?_ _)); exact BK351.out⟩, ⟨bl⟩⟩
      subst c104
      have H1 : ((maskref4_Printed.f k4 ((rd_T83 l0_3 x115_4).f1)).bind fun t353 => (maskref4_LimitsFault.j7 k4 l0_3 (l0_3.length : Int) x115_4 (!t353) ((rd_T83 l0_3 x115_4).f0) ((rd_T83 l0_3 x115_4).f1) ((rd_T83 l0_3 x115_4).f2))) = some r := by rw [if_pos rfl] at H; exact H
      clear H
      have H := H1
      clear H1
      replace H := Option.bind_eq_some_iff.mp H
      obtain ⟨t353, A1050, H⟩ := H
      replace H : (maskref4_LimitsFault.j7 k4 l0_3 (l0_3.length : Int) x115_4 (!t353) ((rd_T83 l0_3 x115_4).f0) ((rd_T83 l0_3 x115_4).f1) ((rd_T83 l0_3 x115_4).f2)) = some r := H
      have A105 := Aside0.mk A1050
      clear A1050
      have H' := Aside0.mk H
      clear H
      go_wp2_with (first | ((with_reducible refine gate_callee (f := 56) rfl ?_); refine goesL_ (some 121) rfl rfl Tryd.func56 (by kernel_rfl) rfl #[.string ((rd_T83 l0_3 x115_4).f0)] rfl (by (try simp only [List.map_toArray, List.map_cons, List.map_nil]); first | done | rfl | (simp only [List.length_drop, List.length_take]; rfl)) ?_; (with_reducible refine (maskref4_Printed.calls k4 ((rd_T83 l0_3 x115_4).f0) true _ A103.out).mono ?_); rintro e w' ⟨rfl, ⟨nd, rfl⟩⟩; refine ⟨_, rfl, ?_⟩) | (go_at_call 56; (with_reducible refine (maskref4_Printed.calls k4 ((rd_T83 l0_3 x115_4).f1) t353 _ A105.out).mono ?_); rintro e w' ⟨rfl, ⟨nd, rfl⟩⟩))
      go_meet
      case rel => exact ⟨_, (!t353), (by first | rfl | (simp; done) | (simp [*]; done)), H', ⟨by have := HJ3.out; have := HK2.out; have := HK3.out; have := HK4.out; first | omega | exact Nat.le_refl _⟩, ⟨bf BK329.out⟩, ⟨by (with_reducible repeat (first | refine blk_drewN ?_ _ | refine blk_drew ?_ | refine blk_alloc ?_ _)); refine blk_put (cs := #[.string ((rd_T83 l0_3 x115_4).f0), .string ((rd_T83 l0_3 x115_4).f1), .int .i64 0]) ?_ 2 _ rfl; (with_reducible repeat (first | refine blk_drewN ?_ _ | refine blk_drew ?_ | refine blk_alloc ?_ _)); refine blk_put (cs := #[.string ((rd_T83 l0_3 x115_4).f0), .string (⟨#[]⟩ : ByteArray), .int .i64 0]) ?_ 1 _ rfl; (with_reducible repeat (first | refine blk_drewN ?_ _ | refine blk_drew ?_ | refine blk_alloc ?_ _)); refine blk_put (cs := #[.string (⟨#[]⟩ : ByteArray), .string (⟨#[]⟩ : ByteArray), .int .i64 0]) ?_ 0 _ rfl; (with_reducible repeat (first | refine blk_drewN ?_ _ | refine blk_drew ?_ | refine blk_alloc ?_ _)); exact BK351.out⟩, ⟨bl⟩⟩
     clear HC99
     clear c96b0 c97b0 c98b0 hcz102_0 hcz102_1 hcz102_2 hfz102_0 hfz102_1 hfz102_2 hx350_0 hx350_1 hx350_2 p350 q350
     obtain ⟨kq, x128_98, rfl, HA, HJ98, BK329, BK351, HB⟩ := hcut
     cases kq with
     | zero => exact absurd HA.out (by simp [maskref4_LimitsFault.j7])
     | succ kj98 =>
      have H := HA.out
      clear HA
      simp only [maskref4_LimitsFault.j7] at H
      by_cases c110 : x128_98 = true
      · subst c110
        have H1 : (some 9) = some r := by rw [if_pos rfl] at H; exact H
        clear H
        have H := H1
        clear H1
        obtain rfl := Option.some.inj H
        go_wp2
        go_ret
        exact ⟨by first | rfl | (simp [errW_none, errW_some] <;> rfl) | (simp [*, errW_none, errW_some] <;> rfl), bl⟩
      replace c110 := Bool.eq_false_iff.mpr c110
      subst c110
      have H1 : (if ((rd_T83 l0_3 x115_4).f2) = 0 then (maskref4_LimitsFault.l4 kj98 l0_3 (l0_3.length : Int) (wrap64 (x115_4 + 1))) else ((maskref4_In.f ((rd_T83 l0_3 x115_4).f2) 2 16).bind fun t354 => (if t354 = true then (maskref4_LimitsFault.l4 kj98 l0_3 (l0_3.length : Int) (wrap64 (x115_4 + 1))) else (some 2)))) = some r := by rw [if_neg (show ¬ (false = true) by decide)] at H; exact H
      clear H
      have H := H1
      clear H1
      by_cases c111 : ((rd_T83 l0_3 x115_4).f2) = 0
      · rw [if_pos c111] at H
        have c111b1 : (((rd_T83 l0_3 x115_4).f2) != 0) = false := bne_eq_false_iff_eq.mpr c111
        clear c111
        have H' := Aside0.mk H
        clear H
        have hcz113_2 : wc.cell? ⟨gb351, 2, none⟩ = some (.int .i64 ((rd_T83 l0_3 x115_4).f2)) := (blk_cell BK351.out 2).trans rfl
        go_wp2
        go_roundg kj98
        case measure => have := HJ3.out; have := HK2.out; have := HK3.out; have := HK4.out; have := HJ98.out; omega
        case rel => exact ⟨(wrap64 (x115_4 + 1)), (by first | rfl | (simp; done) | (simp [*]; done)), H', ⟨by have := HJ3.out; have := HK2.out; have := HK3.out; have := HK4.out; have := HJ98.out; omega⟩, ⟨bk BK329.out⟩, ⟨bl⟩⟩
      rw [if_neg c111] at H
      have c111b1 : (((rd_T83 l0_3 x115_4).f2) != 0) = true := bne_iff_ne.mpr c111
      replace H := Option.bind_eq_some_iff.mp H
      obtain ⟨t354, A1140, H⟩ := H
      replace H : (if t354 = true then (maskref4_LimitsFault.l4 kj98 l0_3 (l0_3.length : Int) (wrap64 (x115_4 + 1))) else (some 2)) = some r := H
      have A114 := Aside0.mk A1140
      clear A1140
      by_cases c115 : t354 = true
      rotate_left
      · replace c115 := Bool.eq_false_iff.mpr c115
        subst c115
        have H1 : (some 2) = some r := by rw [if_neg (show ¬ (false = true) by decide)] at H; exact H
        clear H
        have H := H1
        clear H1
        obtain rfl := Option.some.inj H
        have hcz119_2 : wc.cell? ⟨gb351, 2, none⟩ = some (.int .i64 ((rd_T83 l0_3 x115_4).f2)) := (blk_cell BK351.out 2).trans rfl
        go_wp2_with (go_at_call 54; (with_reducible refine (maskref4_In.calls ((rd_T83 l0_3 x115_4).f2) 2 16 false _ A114.out).mono ?_); rintro e w' ⟨rfl, ⟨nd, rfl⟩⟩)
        go_ret
        exact ⟨by first | rfl | (simp [errW_none, errW_some] <;> rfl) | (simp [*, errW_none, errW_some] <;> rfl), bl⟩
      subst c115
      have H1 : (maskref4_LimitsFault.l4 kj98 l0_3 (l0_3.length : Int) (wrap64 (x115_4 + 1))) = some r := by rw [if_pos rfl] at H; exact H
      clear H
      have H := H1
      clear H1
      have H' := Aside0.mk H
      clear H
      have hcz117_2 : wc.cell? ⟨gb351, 2, none⟩ = some (.int .i64 ((rd_T83 l0_3 x115_4).f2)) := (blk_cell BK351.out 2).trans rfl
      go_wp2_with (go_at_call 54; (with_reducible refine (maskref4_In.calls ((rd_T83 l0_3 x115_4).f2) 2 16 true _ A114.out).mono ?_); rintro e w' ⟨rfl, ⟨nd, rfl⟩⟩)
      go_roundg kj98
      case measure => have := HJ3.out; have := HK2.out; have := HK3.out; have := HK4.out; have := HJ98.out; omega
      case rel => exact ⟨(wrap64 (x115_4 + 1)), (by first | rfl | (simp; done) | (simp [*]; done)), H', ⟨by have := HJ3.out; have := HK2.out; have := HK3.out; have := HK4.out; have := HJ98.out; omega⟩, ⟨bk BK329.out⟩, ⟨bl⟩⟩

end Go.Proofs.YtlegjcagkmjfjaaDoor.PT
namespace Go.Proofs.YtlegjcagkmjfjaaDoor.PT
open Go.RowKit Go.Proofs.YtlegjcagkmjfjaaDoorW.PrintWords Go.Proofs.YtlegjcagkmjfjaaDoorW.PrintLast Go.Proofs.YtlegjcagkmjfjaaDoorW.PrintMore
attribute [local go_sem] max2_int min2_int max_two min_two max_three min_three max_four min_four   -- for this text's walks alone
set_option linter.unusedVariables false
set_option linter.unusedSimpArgs false

/-! ### maskref4_among: function 30 -/
def maskref4_among.l0 : Nat → ByteArray → List ByteArray → Int → Int → Option (Bool)
  | 0, _, _, _, _ => none
  | k + 1, x0, x7, x8, x9 => if x9 < x8 then (if 0 ≤ x9 then (if x9 < (x7.length : Int) then (if (rdOf ByteArray.empty x7 x9).toList = x0.toList then (some true) else (maskref4_among.l0 k x0 x7 x8 (wrap64 (x9 + 1)))) else (none)) else (none)) else (some false)
def maskref4_among.f (k : Nat) (a0 : ByteArray) (l1 : List ByteArray) : Option (Bool) := maskref4_among.l0 k a0 l1 (l1.length : Int) 0
theorem maskref4_among.mono_l : ∀ k, (∀ y0 y1 y2 y3, LeO (maskref4_among.l0 k y0 y1 y2 y3) (maskref4_among.l0 (k + 1) y0 y1 y2 y3))
  | 0 => fun _ _ _ _ r h => by simp [maskref4_among.l0] at h
  | k + 1 => by
    have ih0 := maskref4_among.mono_l k
    · intro y0 y1 y2 y3
      unfold maskref4_among.l0
      repeat' first
      | (with_reducible exact ih0 _ _ _ _)
      | (with_reducible exact LeO.refl _)
      | (with_reducible exact LeO.none _)
      | (with_reducible refine LeO.ite ?_ ?_)
      | (with_reducible refine LeO.bind ?_ (fun _ => ?_))
      | exact ih0 _ _ _ _
      | exact LeO.none _
      | refine LeO.ite ?_ ?_
      | refine LeO.bind ?_ (fun _ => ?_)
theorem maskref4_among.mono : ∀ a0 a1 k, LeO (maskref4_among.f k a0 a1) (maskref4_among.f (k + 1) a0 a1) := by
  intro a0 a1 k
  have ih0 := maskref4_among.mono_l k
  unfold maskref4_among.f
  repeat' first
      | (with_reducible exact ih0 _ _ _ _)
      | (with_reducible exact LeO.refl _)
      | (with_reducible exact LeO.none _)
      | (with_reducible refine LeO.ite ?_ ?_)
      | (with_reducible refine LeO.bind ?_ (fun _ => ?_))
      | exact ih0 _ _ _ _
      | exact LeO.none _
      | refine LeO.ite ?_ ?_
      | refine LeO.bind ?_ (fun _ => ?_)
set_option maxHeartbeats 8000000 in
set_option maxRecDepth 100000 in
theorem maskref4_among.calls (k : Nat) (a0 : ByteArray) (A1 : Option Addr) (c1 : Nat) (l1 : List ByteArray) (r : Bool) (w : World) (hr1 : Kd.C Kd.string w A1 l1.length l1) (hc1 : l1.length ≤ c1) (h : maskref4_among.f k a0 l1 = some r) :
    Calls Tryd.prog 30 #[.string a0, .slice A1 l1.length c1] w fun e w' => e = .returned (.bool r) ∧ Drawn0 w w' := by
  have HR1 := Aside0.mk hr1
  have HC1 := Aside0.mk hc1
  clear hr1 hc1
  have H : (maskref4_among.l0 k a0 l1 (l1.length : Int) 0) = some r := h
  clear h
  have H' := Aside0.mk H
  clear H
  go_enter Tryd.func30, Tryd.ntmps30
  go_wp2
  go_loopg [9] k (fun kq v9 w' => ∃ (x9_1 : Int), v9 = .int .i64 x9_1 ∧ Aside0 (maskref4_among.l0 kq a0 l1 (l1.length : Int) x9_1 = some r) ∧ Aside0 (kq ≤ k) ∧ Drawn0 w w')
  case atStart => exact ⟨(0), (by first | rfl | (simp; done) | (simp [*]; done)), H', ⟨Nat.le_refl _⟩, by repeat (first | exact Drawn0.refl _ | apply Drawn0.step)⟩
  case round =>
    clear H'
    try clear c1
    try clear p2
    obtain ⟨x9_1, rfl, HA, HK1, ⟨m1, rfl⟩⟩ := hrel
    cases gk with
    | zero => exact absurd HA.out (by simp [maskref4_among.l0])
    | succ k1 =>
      have H := HA.out
      clear HA
      simp only [maskref4_among.l0] at H
      by_cases c3 : x9_1 < (l1.length : Int)
      · rw [if_pos c3] at H
        have c3b0 : decide (x9_1 < (l1.length : Int)) = true := decide_eq_true c3
        clear c3
        by_cases c4 : 0 ≤ x9_1
        · rw [if_pos c4] at H
          have c4b0 : decide (0 ≤ x9_1) = true := decide_eq_true c4
          clear c4
          by_cases c5 : x9_1 < (l1.length : Int)
          · rw [if_pos c5] at H
            have c5b0 : decide (x9_1 < (l1.length : Int)) = true := decide_eq_true c5
            clear c5
            by_cases c6 : (rdOf ByteArray.empty l1 x9_1).toList = a0.toList
            · rw [if_pos c6] at H
              have c6b0 : ((rdOf ByteArray.empty l1 x9_1).toList == a0.toList) = true := beq_iff_eq.mpr c6
              have c6b1 : ((rdOf ByteArray.empty l1 x9_1).toList != a0.toList) = false := bne_eq_false_iff_eq.mpr c6
              clear c6
              obtain rfl := Option.some.inj H
              have p355 : 0 ≤ (x9_1 : Int) := of_decide_eq_true (by first | (with_reducible assumption) | assumption)
              have q355 : x9_1 < (l1.length : Int) := of_decide_eq_true (by first | (with_reducible assumption) | assumption)
              obtain ⟨ad355, e355, hx355_0⟩ := Kd.at_string HR1.out x9_1 p355 q355
              cases e355
              replace p355 := eq_true p355
              replace q355 := eq_true q355
              go_wp2
              go_ret
              exact ⟨by first | rfl | (simp; done) | (simp [*]; done), by repeat (first | exact Drawn0.refl _ | apply Drawn0.step)⟩
            · rw [if_neg c6] at H
              have c6b0 : ((rdOf ByteArray.empty l1 x9_1).toList == a0.toList) = false := beq_eq_false_iff_ne.mpr c6
              have c6b1 : ((rdOf ByteArray.empty l1 x9_1).toList != a0.toList) = true := bne_iff_ne.mpr c6
              have H' := Aside0.mk H
              clear H
              have p355 : 0 ≤ (x9_1 : Int) := of_decide_eq_true (by first | (with_reducible assumption) | assumption)
              have q355 : x9_1 < (l1.length : Int) := of_decide_eq_true (by first | (with_reducible assumption) | assumption)
              obtain ⟨ad355, e355, hx355_0⟩ := Kd.at_string HR1.out x9_1 p355 q355
              cases e355
              replace p355 := eq_true p355
              replace q355 := eq_true q355
              go_wp2
              go_roundg k1
              case measure => have := HK1.out; omega
              case rel => exact ⟨(wrap64 (x9_1 + 1)), (by first | rfl | (simp; done) | (simp [*]; done)), H', ⟨by have := HK1.out; omega⟩, by repeat (first | exact Drawn0.refl _ | apply Drawn0.step)⟩
          · rw [if_neg c5] at H
            exact absurd H (by simp)
        · rw [if_neg c4] at H
          exact absurd H (by simp)
      · rw [if_neg c3] at H
        have c3b0 : decide (x9_1 < (l1.length : Int)) = false := decide_eq_false c3
        clear c3
        obtain rfl := Option.some.inj H
        go_wp2
        go_ret
        exact ⟨by first | rfl | (simp; done) | (simp [*]; done), by repeat (first | exact Drawn0.refl _ | apply Drawn0.step)⟩

end Go.Proofs.YtlegjcagkmjfjaaDoor.PT
namespace Go.Proofs.YtlegjcagkmjfjaaDoor.PT
open Go.RowKit Go.Proofs.YtlegjcagkmjfjaaDoorW.PrintWords Go.Proofs.YtlegjcagkmjfjaaDoorW.PrintLast Go.Proofs.YtlegjcagkmjfjaaDoorW.PrintMore
attribute [local go_sem] max2_int min2_int max_two min_two max_three min_three max_four min_four   -- for this text's walks alone
set_option linter.unusedVariables false
set_option linter.unusedSimpArgs false

/-! ### maskref4_AskedFault: function 16 -/
mutual
def maskref4_AskedFault.l0 : Nat → List ByteArray → List (S58) → Int → Int → Int → List (S78) → List (S81) → List (S83) → List ByteArray → List ByteArray → List (S58) → List (S72) → List Int → Option (Int)
 | 0, _, _, _, _, _, _, _, _, _, _, _, _, _ => none
 | k + 1, x6, x21, x22, x23, x357000, x357001, x357002, x357003, x358000, x358001, x358002, x358003, x358004 => if x23 < x22 then (if 0 ≤ x23 then (if x23 < (x21.length : Int) then (if x6.length < 8796093022208 then (maskref4_AskedFault.l0 k (x6 ++ [(rd_T58 x21 x23).f0]) x21 x22 (wrap64 (x23 + 1)) x357000 x357001 x357002 x357003 x358000 x358001 x358002 x358003 x358004) else (none)) else (none)) else (none)) else (maskref4_AskedFault.l1 k x6 x357001 (x357001.length : Int) 0 x357000 x357001 x357002 x357003 x358000 x358001 x358002 x358003 x358004)
def maskref4_AskedFault.l1 : Nat → List ByteArray → List (S78) → Int → Int → Int → List (S78) → List (S81) → List (S83) → List ByteArray → List ByteArray → List (S58) → List (S72) → List Int → Option (Int)
 | 0, _, _, _, _, _, _, _, _, _, _, _, _, _ => none
 | k + 1, x6, x34, x35, x36, x357000, x357001, x357002, x357003, x358000, x358001, x358002, x358003, x358004 => if x36 < x35 then (if 0 ≤ x36 then (if x36 < (x34.length : Int) then ((maskref4_among.f k ((rd_T78 x34 x36).f0) x358000).bind fun t366 => (if t366 = true then (maskref4_AskedFault.l1 k x6 x34 x35 (wrap64 (x36 + 1)) x357000 x357001 x357002 x357003 x358000 x358001 x358002 x358003 x358004) else (some 7))) else (none)) else (none)) else (maskref4_AskedFault.l2 k x6 x357002 (x357002.length : Int) 0 x357000 x357001 x357002 x357003 x358000 x358001 x358002 x358003 x358004)
def maskref4_AskedFault.l2 : Nat → List ByteArray → List (S81) → Int → Int → Int → List (S78) → List (S81) → List (S83) → List ByteArray → List ByteArray → List (S58) → List (S72) → List Int → Option (Int)
 | 0, _, _, _, _, _, _, _, _, _, _, _, _, _ => none
 | k + 1, x6, x48, x49, x50, x357000, x357001, x357002, x357003, x358000, x358001, x358002, x358003, x358004 => if x50 < x49 then (if 0 ≤ x50 then (if x50 < (x48.length : Int) then ((maskref4_among.f k ((rd_T81 x48 x50).f0) x358001).bind fun t369 => (if t369 = true then (maskref4_AskedFault.l2 k x6 x48 x49 (wrap64 (x50 + 1)) x357000 x357001 x357002 x357003 x358000 x358001 x358002 x358003 x358004) else (some 7))) else (none)) else (none)) else (maskref4_AskedFault.l3 k x6 x357003 (x357003.length : Int) 0 x358000 x358001 x358002 x358003 x358004)
def maskref4_AskedFault.l3 : Nat → List ByteArray → List (S83) → Int → Int → List ByteArray → List ByteArray → List (S58) → List (S72) → List Int → Option (Int)
 | 0, _, _, _, _, _, _, _, _, _ => none
 | k + 1, x6, x62, x63, x64, x358000, x358001, x358002, x358003, x358004 => if x64 < x63 then (if 0 ≤ x64 then (if x64 < (x62.length : Int) then (if ((rd_T83 x62 x64).f0).toList = ([] : List UInt8) then (if ((rd_T83 x62 x64).f1).toList = ([] : List UInt8) then (maskref4_AskedFault.l3 k x6 x62 x63 (wrap64 (x64 + 1)) x358000 x358001 x358002 x358003 x358004) else ((maskref4_among.f k ((rd_T83 x62 x64).f1) x358001).bind fun t372 => (if t372 = true then (maskref4_AskedFault.l3 k x6 x62 x63 (wrap64 (x64 + 1)) x358000 x358001 x358002 x358003 x358004) else ((maskref4_among.f k ((rd_T83 x62 x64).f1) x6).bind fun t373 => (if t373 = true then (maskref4_AskedFault.l3 k x6 x62 x63 (wrap64 (x64 + 1)) x358000 x358001 x358002 x358003 x358004) else (some 7)))))) else ((maskref4_among.f k ((rd_T83 x62 x64).f0) x358000).bind fun t374 => (if t374 = true then (if ((rd_T83 x62 x64).f1).toList = ([] : List UInt8) then (maskref4_AskedFault.l3 k x6 x62 x63 (wrap64 (x64 + 1)) x358000 x358001 x358002 x358003 x358004) else ((maskref4_among.f k ((rd_T83 x62 x64).f1) x358001).bind fun t375 => (if t375 = true then (maskref4_AskedFault.l3 k x6 x62 x63 (wrap64 (x64 + 1)) x358000 x358001 x358002 x358003 x358004) else ((maskref4_among.f k ((rd_T83 x62 x64).f1) x6).bind fun t376 => (if t376 = true then (maskref4_AskedFault.l3 k x6 x62 x63 (wrap64 (x64 + 1)) x358000 x358001 x358002 x358003 x358004) else (some 7)))))) else ((maskref4_among.f k ((rd_T83 x62 x64).f0) x6).bind fun t377 => (if t377 = true then (if ((rd_T83 x62 x64).f1).toList = ([] : List UInt8) then (maskref4_AskedFault.l3 k x6 x62 x63 (wrap64 (x64 + 1)) x358000 x358001 x358002 x358003 x358004) else ((maskref4_among.f k ((rd_T83 x62 x64).f1) x358001).bind fun t378 => (if t378 = true then (maskref4_AskedFault.l3 k x6 x62 x63 (wrap64 (x64 + 1)) x358000 x358001 x358002 x358003 x358004) else ((maskref4_among.f k ((rd_T83 x62 x64).f1) x6).bind fun t379 => (if t379 = true then (maskref4_AskedFault.l3 k x6 x62 x63 (wrap64 (x64 + 1)) x358000 x358001 x358002 x358003 x358004) else (some 7)))))) else (some 7)))))) else (none)) else (none)) else (some 0)
end
def maskref4_AskedFault.f (k : Nat) (a0_0 : Int) (l0_1 : List (S78)) (l0_2 : List (S81)) (l0_3 : List (S83)) (l1_0 : List ByteArray) (l1_1 : List ByteArray) (l1_2 : List (S58)) (l1_3 : List (S72)) (l1_4 : List Int) : Option (Int) := (maskref4_LimitsFault.f k a0_0 l0_1 l0_2 l0_3).bind fun t358 => (if t358 = 0 then (maskref4_AskedFault.l0 k ([] : List ByteArray) l1_2 (l1_2.length : Int) 0 a0_0 l0_1 l0_2 l0_3 l1_0 l1_1 l1_2 l1_3 l1_4) else (some t358))
theorem maskref4_AskedFault.mono_l : ∀ k, (∀ y0 y1 y2 y3 y4 y5 y6 y7 y8 y9 y10 y11 y12, LeO (maskref4_AskedFault.l0 k y0 y1 y2 y3 y4 y5 y6 y7 y8 y9 y10 y11 y12) (maskref4_AskedFault.l0 (k + 1) y0 y1 y2 y3 y4 y5 y6 y7 y8 y9 y10 y11 y12)) ∧ (∀ y0 y1 y2 y3 y4 y5 y6 y7 y8 y9 y10 y11 y12, LeO (maskref4_AskedFault.l1 k y0 y1 y2 y3 y4 y5 y6 y7 y8 y9 y10 y11 y12) (maskref4_AskedFault.l1 (k + 1) y0 y1 y2 y3 y4 y5 y6 y7 y8 y9 y10 y11 y12)) ∧ (∀ y0 y1 y2 y3 y4 y5 y6 y7 y8 y9 y10 y11 y12, LeO (maskref4_AskedFault.l2 k y0 y1 y2 y3 y4 y5 y6 y7 y8 y9 y10 y11 y12) (maskref4_AskedFault.l2 (k + 1) y0 y1 y2 y3 y4 y5 y6 y7 y8 y9 y10 y11 y12)) ∧ (∀ y0 y1 y2 y3 y4 y5 y6 y7 y8, LeO (maskref4_AskedFault.l3 k y0 y1 y2 y3 y4 y5 y6 y7 y8) (maskref4_AskedFault.l3 (k + 1) y0 y1 y2 y3 y4 y5 y6 y7 y8))
 | 0 => ⟨fun _ _ _ _ _ _ _ _ _ _ _ _ _ r h => by simp [maskref4_AskedFault.l0] at h, fun _ _ _ _ _ _ _ _ _ _ _ _ _ r h => by simp [maskref4_AskedFault.l1] at h, fun _ _ _ _ _ _ _ _ _ _ _ _ _ r h => by simp [maskref4_AskedFault.l2] at h, fun _ _ _ _ _ _ _ _ _ r h => by simp [maskref4_AskedFault.l3] at h⟩
 | k + 1 => by
  obtain ⟨ih0, ih1, ih2, ih3⟩ := maskref4_AskedFault.mono_l k
  refine ⟨?_, ?_, ?_, ?_⟩
  · intro y0 y1 y2 y3 y4 y5 y6 y7 y8 y9 y10 y11 y12
    unfold maskref4_AskedFault.l0
    repeat' first
    | (with_reducible exact ih0 _ _ _ _ _ _ _ _ _ _ _ _ _)
    | (with_reducible exact ih1 _ _ _ _ _ _ _ _ _ _ _ _ _)
    | (with_reducible exact LeO.refl _)
    | (with_reducible exact LeO.none _)
    | (with_reducible refine LeO.ite ?_ ?_)
    | (with_reducible refine LeO.bind ?_ (fun _ => ?_))
  · intro y0 y1 y2 y3 y4 y5 y6 y7 y8 y9 y10 y11 y12
    unfold maskref4_AskedFault.l1
    repeat' first
    | (with_reducible exact ih1 _ _ _ _ _ _ _ _ _ _ _ _ _)
    | (with_reducible exact ih2 _ _ _ _ _ _ _ _ _ _ _ _ _)
    | (with_reducible exact maskref4_among.mono _ _ _)
    | (with_reducible exact LeO.refl _)
    | (with_reducible exact LeO.none _)
    | (with_reducible refine LeO.ite ?_ ?_)
    | (with_reducible refine LeO.bind ?_ (fun _ => ?_))
  · intro y0 y1 y2 y3 y4 y5 y6 y7 y8 y9 y10 y11 y12
    unfold maskref4_AskedFault.l2
    repeat' first
    | (with_reducible exact ih2 _ _ _ _ _ _ _ _ _ _ _ _ _)
    | (with_reducible exact ih3 _ _ _ _ _ _ _ _ _)
    | (with_reducible exact maskref4_among.mono _ _ _)
    | (with_reducible exact LeO.refl _)
    | (with_reducible exact LeO.none _)
    | (with_reducible refine LeO.ite ?_ ?_)
    | (with_reducible refine LeO.bind ?_ (fun _ => ?_))
  · intro y0 y1 y2 y3 y4 y5 y6 y7 y8
    unfold maskref4_AskedFault.l3
    repeat' first
    | (with_reducible exact ih3 _ _ _ _ _ _ _ _ _)
    | (with_reducible exact maskref4_among.mono _ _ _)
    | (with_reducible exact LeO.refl _)
    | (with_reducible exact LeO.none _)
    | (with_reducible refine LeO.ite ?_ ?_)
    | (with_reducible refine LeO.bind ?_ (fun _ => ?_))
theorem maskref4_AskedFault.mono : ∀ a0 a1 a2 a3 a4 a5 a6 a7 a8 k, LeO (maskref4_AskedFault.f k a0 a1 a2 a3 a4 a5 a6 a7 a8) (maskref4_AskedFault.f (k + 1) a0 a1 a2 a3 a4 a5 a6 a7 a8) := by
 intro a0 a1 a2 a3 a4 a5 a6 a7 a8 k
 obtain ⟨ih0, ih1, ih2, ih3⟩ := maskref4_AskedFault.mono_l k
 unfold maskref4_AskedFault.f
 repeat' first
  | (with_reducible exact ih0 _ _ _ _ _ _ _ _ _ _ _ _ _)
  | (with_reducible exact maskref4_LimitsFault.mono _ _ _ _ _)
  | (with_reducible exact LeO.refl _)
  | (with_reducible exact LeO.none _)
  | (with_reducible refine LeO.ite ?_ ?_)
  | (with_reducible refine LeO.bind ?_ (fun _ => ?_))
set_option maxHeartbeats 8000000 in
set_option maxRecDepth 100000 in
theorem maskref4_AskedFault.calls (k : Nat) (a0_0 : Int) (A0_1 : Option Addr) (c0_1 : Nat) (l0_1 : List (S78)) (A0_2 : Option Addr) (c0_2 : Nat) (l0_2 : List (S81)) (A0_3 : Option Addr) (c0_3 : Nat) (l0_3 : List (S83)) (A1_0 : Option Addr) (c1_0 : Nat) (l1_0 : List ByteArray) (A1_1 : Option Addr) (c1_1 : Nat) (l1_1 : List ByteArray) (A1_2 : Option Addr) (c1_2 : Nat) (l1_2 : List (S58)) (A1_3 : Option Addr) (c1_3 : Nat) (l1_3 : List (S72)) (A1_4 : Option Addr) (c1_4 : Nat) (l1_4 : List Int) (r : Int) (w : World) (hr0_1 : Kd.C k78 w A0_1 l0_1.length l0_1) (hc0_1 : l0_1.length ≤ c0_1) (hr0_2 : Kd.C k81 w A0_2 l0_2.length l0_2) (hc0_2 : l0_2.length ≤ c0_2) (hr0_3 : Kd.C k83 w A0_3 l0_3.length l0_3) (hc0_3 : l0_3.length ≤ c0_3) (hr1_0 : Kd.C Kd.string w A1_0 l1_0.length l1_0) (hc1_0 : l1_0.length ≤ c1_0) (hr1_1 : Kd.C Kd.string w A1_1 l1_1.length l1_1) (hc1_1 : l1_1.length ≤ c1_1) (hr1_2 : Kd.C k58 w A1_2 l1_2.length l1_2) (hc1_2 : l1_2.length ≤ c1_2) (hr1_3 : Kd.C k72 w A1_3 l1_3.length l1_3) (hc1_3 : l1_3.length ≤ c1_3) (hr1_4 : Kd.C (Kd.int .i64) w A1_4 l1_4.length l1_4) (hc1_4 : l1_4.length ≤ c1_4) (h : maskref4_AskedFault.f k a0_0 l0_1 l0_2 l0_3 l1_0 l1_1 l1_2 l1_3 l1_4 = some r) :
 Calls Tryd.prog 16 #[.agg #[.int .i64 a0_0, .slice A0_1 l0_1.length c0_1, .slice A0_2 l0_2.length c0_2, .slice A0_3 l0_3.length c0_3], .agg #[.slice A1_0 l1_0.length c1_0, .slice A1_1 l1_1.length c1_1, .slice A1_2 l1_2.length c1_2, .slice A1_3 l1_3.length c1_3, .slice A1_4 l1_4.length c1_4]] w fun e w' => e = .returned (.int .i64 r) ∧ Below w.heap.size w w' := by
 have HR0_1 := Aside0.mk hr0_1
 have HC0_1 := Aside0.mk hc0_1
 clear hr0_1 hc0_1
 have HR0_2 := Aside0.mk hr0_2
 have HC0_2 := Aside0.mk hc0_2
 clear hr0_2 hc0_2
 have HR0_3 := Aside0.mk hr0_3
 have HC0_3 := Aside0.mk hc0_3
 clear hr0_3 hc0_3
 have HR1_0 := Aside0.mk hr1_0
 have HC1_0 := Aside0.mk hc1_0
 clear hr1_0 hc1_0
 have HR1_1 := Aside0.mk hr1_1
 have HC1_1 := Aside0.mk hc1_1
 clear hr1_1 hc1_1
 have HR1_2 := Aside0.mk hr1_2
 clear hr1_2 hc1_2
 clear hr1_3 hc1_3
 clear hr1_4 hc1_4
 have HB := Aside0.mk (Below.refl w.heap.size w)
 have H : ((maskref4_LimitsFault.f k a0_0 l0_1 l0_2 l0_3).bind fun t358 => (if t358 = 0 then (maskref4_AskedFault.l0 k ([] : List ByteArray) l1_2 (l1_2.length : Int) 0 a0_0 l0_1 l0_2 l0_3 l1_0 l1_1 l1_2 l1_3 l1_4) else (some t358))) = some r := h
 clear h
 replace H := Option.bind_eq_some_iff.mp H
 obtain ⟨t358, A30, H⟩ := H
 replace H : (if t358 = 0 then (maskref4_AskedFault.l0 k ([] : List ByteArray) l1_2 (l1_2.length : Int) 0 a0_0 l0_1 l0_2 l0_3 l1_0 l1_1 l1_2 l1_3 l1_4) else (some t358)) = some r := H
 have A3 := Aside0.mk A30
 clear A30
 by_cases c4 : t358 = 0
 rotate_left
 · rw [if_neg c4] at H
   have c4b1 : (t358 != 0) = true := bne_iff_ne.mpr c4
   obtain rfl := Option.some.inj H
   go_enter Tryd.func16, Tryd.ntmps16
   go_wp2_with (first | ((with_reducible refine gate_dst (N := 2) rfl ?_); refine box_event ?hg (N := 2) ?hd (cs := #[.int .i64 a0_0, .slice A0_1 l0_1.length c0_1, .slice A0_2 l0_2.length c0_2, .slice A0_3 l0_3.length c0_3]) (t := 37) ?hr ?_; (case hd => rfl); (case hg => rfl); (case hr => first | (go_simp; done) | (go_simp; rfl)); intro gb356 hg w168 hbox hb; have n0_ := Aside0.mk (below_step bl hb); have n1_ := Aside0.mk (hbox); have n2_ := Aside0.mk (ge (w := w) hg); have n3_ := Aside0.mk (ge (w := w) hg); clear HB; have HB := n0_; have BK356 := n1_; clear n0_ n1_ n2_ n3_; clear hb hbox hg) | ((with_reducible refine gate_dst (N := 3) rfl ?_); refine box_event ?hg (N := 3) ?hd (cs := #[.slice A1_0 l1_0.length c1_0, .slice A1_1 l1_1.length c1_1, .slice A1_2 l1_2.length c1_2, .slice A1_3 l1_3.length c1_3, .slice A1_4 l1_4.length c1_4]) (t := 27) ?hr ?_; (case hd => rfl); (case hg => rfl); (case hr => first | (go_simp; done) | (go_simp; rfl)); intro gb357 hg w169 hbox hb; have n0_ := Aside0.mk (bb BK356.out hb); have n1_ := Aside0.mk (below_step bl hb); have n2_ := Aside0.mk (hbox); have n3_ := Aside0.mk (ge (w := w) hg); have n4_ := Aside0.mk (ge (w := w) hg); have n5_ := Aside0.mk (nl hg (bk BK356.out)); have n6_ := Aside0.mk (ng hg (bk BK356.out)); clear BK356; clear HB; have BK356 := n0_; have HB := n1_; have BK357 := n2_; have NB356_357 := n5_; have NB357_356 := n6_; clear n0_ n1_ n2_ n3_ n4_ n5_ n6_; clear hb hbox hg; obtain ⟨hcz171_0, hcz171_1, hcz171_2, hcz171_3, -, -, -, hfz171_3⟩ := bz4 BK356.out) | ((with_reducible refine gate_callee (f := 29) rfl ?_); refine goesL_ (some 16) rfl rfl Tryd.func29 (by kernel_rfl) rfl #[.agg #[.int .i64 a0_0, .slice A0_1 l0_1.length c0_1, .slice A0_2 l0_2.length c0_2, .slice A0_3 l0_3.length c0_3]] rfl (by (try simp only [List.map_toArray, List.map_cons, List.map_nil]); first | done | rfl | (simp only [List.length_drop, List.length_take]; rfl)) ?_; (with_reducible refine (maskref4_LimitsFault.calls k a0_0 _ _ l0_1 _ _ l0_2 _ _ l0_3 t358 _ ?side1 ?side2 ?side3 ?side4 ?side5 ?side6 A3.out).mono ?_); (case side1 => exact kc (Kd.C_below HR0_1.out HB.out)); (case side2 => exact HC0_1.out); (case side3 => exact kc (Kd.C_below HR0_2.out HB.out)); (case side4 => exact HC0_2.out); (case side5 => exact kc (Kd.C_below HR0_3.out HB.out)); (case side6 => exact HC0_3.out); rintro e w172 ⟨rfl, hb⟩; refine ⟨_, rfl, ?_⟩; have n0_ := Aside0.mk (bb BK356.out hb); have n1_ := Aside0.mk (bb BK357.out hb); have n2_ := Aside0.mk (below_step bl hb); clear BK356; clear BK357; clear HB; have HB := n2_; clear n0_ n1_ n2_; (try clear hb)))
   go_ret
   exact ⟨by first | rfl | (simp [errW_none, errW_some] <;> rfl) | (simp [*, errW_none, errW_some] <;> rfl), bl⟩
 rw [if_pos c4] at H
 have c4b0 : (t358 == 0) = true := beq_iff_eq.mpr c4
 have c4b1 : (t358 != 0) = false := bne_eq_false_iff_eq.mpr c4
 clear c4
 have H' := Aside0.mk H
 clear H
 go_enter Tryd.func16, Tryd.ntmps16
 go_wp2_with (first | ((with_reducible refine gate_dst (N := 2) rfl ?_); refine box_event ?hg (N := 2) ?hd (cs := #[.int .i64 a0_0, .slice A0_1 l0_1.length c0_1, .slice A0_2 l0_2.length c0_2, .slice A0_3 l0_3.length c0_3]) (t := 37) ?hr ?_; (case hd => rfl); (case hg => rfl); (case hr => first | (go_simp; done) | (go_simp; rfl)); intro gb356 hg w5 hbox hb; have n0_ := Aside0.mk (below_step bl hb); have n1_ := Aside0.mk (hbox); have n2_ := Aside0.mk (ge (w := w) hg); have n3_ := Aside0.mk (ge (w := w) hg); clear HB; have HB := n0_; have BK356 := n1_; have GE356 := n3_; clear n0_ n1_ n2_ n3_; clear hb hbox hg) | ((with_reducible refine gate_dst (N := 3) rfl ?_); refine box_event ?hg (N := 3) ?hd (cs := #[.slice A1_0 l1_0.length c1_0, .slice A1_1 l1_1.length c1_1, .slice A1_2 l1_2.length c1_2, .slice A1_3 l1_3.length c1_3, .slice A1_4 l1_4.length c1_4]) (t := 27) ?hr ?_; (case hd => rfl); (case hg => rfl); (case hr => first | (go_simp; done) | (go_simp; rfl)); intro gb357 hg w6 hbox hb; have n0_ := Aside0.mk (bb BK356.out hb); have n1_ := Aside0.mk (below_step bl hb); have n2_ := Aside0.mk (hbox); have n3_ := Aside0.mk (ge (w := w) hg); have n4_ := Aside0.mk (ge (w := w) hg); have n5_ := Aside0.mk (nl hg (bk BK356.out)); have n6_ := Aside0.mk (ng hg (bk BK356.out)); clear BK356; clear HB; have BK356 := n0_; have HB := n1_; have BK357 := n2_; have GE357 := n4_; have NB356_357 := n5_; have NB357_356 := n6_; clear n0_ n1_ n2_ n3_ n4_ n5_ n6_; clear hb hbox hg; obtain ⟨hcz8_0, hcz8_1, hcz8_2, hcz8_3, hfz8_0, hfz8_1, hfz8_2, hfz8_3⟩ := bz4 BK356.out) | ((with_reducible refine gate_callee (f := 29) rfl ?_); refine goesL_ (some 16) rfl rfl Tryd.func29 (by kernel_rfl) rfl #[.agg #[.int .i64 a0_0, .slice A0_1 l0_1.length c0_1, .slice A0_2 l0_2.length c0_2, .slice A0_3 l0_3.length c0_3]] rfl (by (try simp only [List.map_toArray, List.map_cons, List.map_nil]); first | done | rfl | (simp only [List.length_drop, List.length_take]; rfl)) ?_; (with_reducible refine (maskref4_LimitsFault.calls k a0_0 _ _ l0_1 _ _ l0_2 _ _ l0_3 t358 _ ?side1 ?side2 ?side3 ?side4 ?side5 ?side6 A3.out).mono ?_); (case side1 => exact kc (Kd.C_below HR0_1.out HB.out)); (case side2 => exact HC0_1.out); (case side3 => exact kc (Kd.C_below HR0_2.out HB.out)); (case side4 => exact HC0_2.out); (case side5 => exact kc (Kd.C_below HR0_3.out HB.out)); (case side6 => exact HC0_3.out); rintro e w9 ⟨rfl, hb⟩; refine ⟨_, rfl, ?_⟩; replace BK356 := Aside0.mk (bb BK356.out hb); replace BK357 := Aside0.mk (bb BK357.out hb); replace HB := Aside0.mk (below_step bl hb); (try clear hb); obtain ⟨hcz10_0, hcz10_1, hcz10_2, hcz10_3, hcz10_4, hfz10_0, hfz10_1, hfz10_2, hfz10_3, hfz10_4⟩ := bz5 BK357.out))
 go_loopg [6, 23] k (fun kq v6 v23 w' => ∃ (x6_1 : List ByteArray) (x23_1 : Int), v23 = .int .i64 x23_1 ∧ Aside0 (maskref4_AskedFault.l0 kq x6_1 l1_2 (l1_2.length : Int) x23_1 a0_0 l0_1 l0_2 l0_3 l1_0 l1_1 l1_2 l1_3 l1_4 = some r) ∧ Aside0 (kq ≤ k) ∧ Aside0 (Kd.R Kd.string 9 w' w.heap.size (fun _ => True) v6 x6_1) ∧ Aside0 (w'.heap[gb356]? = some (.cells #[.int .i64 a0_0, (.slice A0_1 l0_1.length c0_1), (.slice A0_2 l0_2.length c0_2), (.slice A0_3 l0_3.length c0_3)] 37 (0, 0))) ∧ Aside0 (w'.heap[gb357]? = some (.cells #[(.slice A1_0 l1_0.length c1_0), (.slice A1_1 l1_1.length c1_1), (.slice A1_2 l1_2.length c1_2), (.slice A1_3 l1_3.length c1_3), (.slice A1_4 l1_4.length c1_4)] 27 (0, 0))) ∧ Aside0 (Below w.heap.size w w'))
 case atStart => exact ⟨(([] : List ByteArray)), (0), (by first | rfl | (simp; done) | (simp [*]; done)), H', ⟨Nat.le_refl _⟩, ⟨by first | exact Kd.R_nil _ _ _ _ _ | exact Kd.N_nil _ _ _ _ _ | exact Kd.V_nil _ _ _ _ _ | exact Kd.Q_nil _ _ _ _ _ | exact Kd.S_nil _ _ _ _ _⟩, ⟨bk BK356.out⟩, ⟨bk BK357.out⟩, ⟨bl⟩⟩
 clear H'
 clear c4b0 c4b1 hcz10_0 hcz10_1 hcz10_2 hcz10_3 hcz10_4 hcz8_0 hcz8_1 hcz8_2 hcz8_3 hfz10_0 hfz10_1 hfz10_2 hfz10_3 hfz10_4 hfz8_0 hfz8_1 hfz8_2 hfz8_3
 obtain ⟨x6_1, x23_1, rfl, HA, HK1, HO_6, BK356, BK357, HB⟩ := hrel
 cases gk with
 | zero => exact absurd HA.out (by simp [maskref4_AskedFault.l0])
 | succ k1 =>
  have H := HA.out
  clear HA
  simp only [maskref4_AskedFault.l0] at H
  by_cases c11 : x23_1 < (l1_2.length : Int)
  · rw [if_pos c11] at H
    have c11b0 : decide (x23_1 < (l1_2.length : Int)) = true := decide_eq_true c11
    clear c11
    by_cases c12 : 0 ≤ x23_1
    rotate_left
    · rw [if_neg c12] at H
      exact absurd H (by simp)
    rw [if_pos c12] at H
    have c12b0 : decide (0 ≤ x23_1) = true := decide_eq_true c12
    clear c12
    by_cases c13 : x23_1 < (l1_2.length : Int)
    rotate_left
    · rw [if_neg c13] at H
      exact absurd H (by simp)
    rw [if_pos c13] at H
    have c13b0 : decide (x23_1 < (l1_2.length : Int)) = true := decide_eq_true c13
    clear c13
    by_cases c14 : x6_1.length < 8796093022208
    rotate_left
    · rw [if_neg c14] at H
      exact absurd H (by simp)
    rw [if_pos c14] at H
    have LMc14 := Aside0.mk c14
    clear c14
    obtain ⟨y361, hy361⟩ : ∃ y_ : List ByteArray, y_ = (x6_1 ++ [(rd_T58 l1_2 x23_1).f0]) := ⟨_, rfl⟩
    replace H : (maskref4_AskedFault.l0 k1 y361 l1_2 (l1_2.length : Int) (wrap64 (x23_1 + 1)) a0_0 l0_1 l0_2 l0_3 l1_0 l1_1 l1_2 l1_3 l1_4) = some r := by first | (rw [hy361]; with_reducible exact H) | (have H2_ := (Option.bind_some _ _).symm.trans H; rw [hy361]; with_reducible exact H2_) | (have H2_ := (Option.bind_some _ _).symm.trans H; with_reducible exact H2_) | with_reducible exact H | (rw [hy361]; exact H) | exact H
    have Ny361 := Aside0.mk hy361
    clear hy361
    have H' := Aside0.mk H
    clear H
    have p359 : 0 ≤ (x23_1 : Int) := of_decide_eq_true (by first | (with_reducible assumption) | assumption)
    have q359 : x23_1 < (l1_2.length : Int) := of_decide_eq_true (by first | (with_reducible assumption) | assumption)
    obtain ⟨ad359, e359, hx359_0, hx359_1, hx359_2, hx359_3, hx359_4⟩ := at_T58 HR1_2.out x23_1 p359 q359
    cases e359
    replace hx359_0 := hc HB.out hx359_0
    replace hx359_1 := hc HB.out hx359_1
    replace hx359_2 := hc HB.out hx359_2
    replace hx359_3 := hc HB.out hx359_3
    replace hx359_4 := hc HB.out hx359_4
    replace p359 := eq_true p359
    replace q359 := eq_true q359
    go_wp2_with (first | ((with_reducible refine gate_dst (N := 8) rfl ?_); refine box_event ?hg (N := 8) ?hd (cs := #[.string (⟨#[]⟩ : ByteArray), .int .i64 0, .int .i64 0, .int .i64 0, .bool false]) (t := 58) ?hr ?_; (case hd => rfl); (case hg => rfl); (case hr => first | (go_simp; done) | (go_simp; rfl)); intro gb360 hg w15 hbox hb; have n0_ := Aside0.mk (rb HO_6.out hb); have n1_ := Aside0.mk (bb BK356.out hb); have n2_ := Aside0.mk (bb BK357.out hb); have n3_ := Aside0.mk (below_step bl hb); have n4_ := Aside0.mk (hbox); have n5_ := Aside0.mk (ge (w := w) hg); have n6_ := Aside0.mk (ge (w := w) hg); have n7_ := Aside0.mk (nl hg (bk BK356.out)); have n8_ := Aside0.mk (ng hg (bk BK356.out)); have n9_ := Aside0.mk (nl hg (bk BK357.out)); have n10_ := Aside0.mk (ng hg (bk BK357.out)); clear HO_6; clear BK356; clear BK357; clear HB; have HO_6 := n0_; have BK356 := n1_; have BK357 := n2_; have HB := n3_; have BK360 := n4_; have GE360 := n6_; have NB356_360 := n7_; have NB360_356 := n8_; have NB357_360 := n9_; have NB360_357 := n10_; clear n0_ n1_ n2_ n3_ n4_ n5_ n6_ n7_ n8_ n9_ n10_; clear hb hbox hg; obtain ⟨hcz18_0, hcz18_1, hcz18_2, hcz18_3, hcz18_4, hfz18_0, hfz18_1, hfz18_2, hfz18_3, hfz18_4⟩ := bz5 BK360.out) | ((with_reducible refine gate_builtin (b := .append) (xs := #[.tmp 27, .tmp 30]) rfl ?_); at_builtin; refine Kd.R_append Kd.string (w0 := w) w.heap.size rfl (.tmp 27) (.tmp 30) 22 9 (.string ⟨#[]⟩) 16 rfl Tryd.underlying22 info9 rfl (by decide) (by omega) u6 x6_1 ((rd_T58 l1_2 x23_1).f0) [.string ((rd_T58 l1_2 x23_1).f0)] (fun _ => True) (fun _ => False) rfl (by first | (go_simp; done) | (go_simp; rfl)) ?aP (fun _ hk => hk.elim) ?aF ?aO ?aB ?aS ?aL ?_; (case aP => exact rfl); (case aB => exact bl); (case aF => exact (fun _ _ => trivial)); (case aO => exact (by (with_reducible repeat (first | apply Kd.R_alloc | apply Kd.R_drewN | apply Kd.R_drew)); exact Kd.R_mono (Kd.R_far (p := ⟨gb360, 4, none⟩) (Kd.R_far (p := ⟨gb360, 3, none⟩) (Kd.R_far (p := ⟨gb360, 2, none⟩) (Kd.R_far (p := ⟨gb360, 1, none⟩) (Kd.R_far (p := ⟨gb360, 0, none⟩) (Kd.R_types HO_6.out BK360.out (by decide)) (fun _ hk => hk.2) (.string ((rd_T58 l1_2 x23_1).f0))) (fun _ hk => hk.2) (.int .i64 ((rd_T58 l1_2 x23_1).f1))) (fun _ hk => hk.2) (.int .i64 ((rd_T58 l1_2 x23_1).f2))) (fun _ hk => hk.2) (.int .i64 ((rd_T58 l1_2 x23_1).f3))) (fun _ hk => hk.2) (.bool ((rd_T58 l1_2 x23_1).f4))) (fun _ hk => trivial))); (case aS => exact (below_size bl)); (case aL => have := LMc14.out; omega); intro v362 w19 ho hb hg hat; rw [← Ny361.out] at ho; have n0_ := Aside0.mk (blk_grown (bf BK356.out) hg (Kd.R_ne HO_6.out BK356.out (by decide))); have n1_ := Aside0.mk (blk_grown (bf BK357.out) hg (Kd.R_ne HO_6.out BK357.out (by decide))); have n2_ := Aside0.mk (blk_grown (g := gb360) (o := .cells #[.string ((rd_T58 l1_2 x23_1).f0), .int .i64 ((rd_T58 l1_2 x23_1).f1), .int .i64 ((rd_T58 l1_2 x23_1).f2), .int .i64 ((rd_T58 l1_2 x23_1).f3), .bool ((rd_T58 l1_2 x23_1).f4)] 58 (0, 0)) (by (with_reducible repeat (first | refine blk_drewN ?_ _ | refine blk_drew ?_ | refine blk_alloc ?_ _)); refine blk_put (cs := #[.string ((rd_T58 l1_2 x23_1).f0), .int .i64 ((rd_T58 l1_2 x23_1).f1), .int .i64 ((rd_T58 l1_2 x23_1).f2), .int .i64 ((rd_T58 l1_2 x23_1).f3), .bool false]) ?_ 4 _ rfl; (with_reducible repeat (first | refine blk_drewN ?_ _ | refine blk_drew ?_ | refine blk_alloc ?_ _)); refine blk_put (cs := #[.string ((rd_T58 l1_2 x23_1).f0), .int .i64 ((rd_T58 l1_2 x23_1).f1), .int .i64 ((rd_T58 l1_2 x23_1).f2), .int .i64 0, .bool false]) ?_ 3 _ rfl; (with_reducible repeat (first | refine blk_drewN ?_ _ | refine blk_drew ?_ | refine blk_alloc ?_ _)); refine blk_put (cs := #[.string ((rd_T58 l1_2 x23_1).f0), .int .i64 ((rd_T58 l1_2 x23_1).f1), .int .i64 0, .int .i64 0, .bool false]) ?_ 2 _ rfl; (with_reducible repeat (first | refine blk_drewN ?_ _ | refine blk_drew ?_ | refine blk_alloc ?_ _)); refine blk_put (cs := #[.string ((rd_T58 l1_2 x23_1).f0), .int .i64 0, .int .i64 0, .int .i64 0, .bool false]) ?_ 1 _ rfl; (with_reducible repeat (first | refine blk_drewN ?_ _ | refine blk_drew ?_ | refine blk_alloc ?_ _)); refine blk_put (cs := #[.string (⟨#[]⟩ : ByteArray), .int .i64 0, .int .i64 0, .int .i64 0, .bool false]) ?_ 0 _ rfl; (with_reducible repeat (first | refine blk_drewN ?_ _ | refine blk_drew ?_ | refine blk_alloc ?_ _)); exact BK360.out) hg (Kd.R_ne HO_6.out BK360.out (by decide))); have n3_ := Aside0.mk (hb); have n4_ := Aside0.mk (ho); clear BK356; clear BK357; clear BK360; clear HB; clear HO_6; have BK356 := n0_; have BK357 := n1_; have HB := n3_; have HO363 := n4_; clear n0_ n1_ n2_ n3_ n4_; clear ho hb hg hat))
    go_roundg k1
    case measure => have := HK1.out; omega
    case rel => exact ⟨(y361), (wrap64 (x23_1 + 1)), (by first | rfl | (simp; done) | (simp [*]; done)), H', ⟨by have := HK1.out; omega⟩, ⟨by (with_reducible repeat (first | apply Kd.R_alloc | apply Kd.R_drewN | apply Kd.R_drew)); exact HO363.out⟩, ⟨bk BK356.out⟩, ⟨bk BK357.out⟩, ⟨bl⟩⟩
  rw [if_neg c11] at H
  have c11b0 : decide (x23_1 < (l1_2.length : Int)) = false := decide_eq_false c11
  clear c11
  have H' := Aside0.mk H
  clear H
  obtain ⟨hcz21_0, hcz21_1, hcz21_2, hcz21_3, hfz21_0, hfz21_1, hfz21_2, hfz21_3⟩ := bz4 BK356.out
  go_wp2
  go_loopg [36] k1 (fun kq v36 w' => ∃ (x36_2 : Int), v36 = .int .i64 x36_2 ∧ Aside0 (maskref4_AskedFault.l1 kq x6_1 l0_1 (l0_1.length : Int) x36_2 a0_0 l0_1 l0_2 l0_3 l1_0 l1_1 l1_2 l1_3 l1_4 = some r) ∧ Aside0 (kq ≤ k1) ∧ Aside0 (Kd.R Kd.string 9 w' w.heap.size (fun _ => True) u6 x6_1) ∧ Aside0 (w'.heap[gb356]? = some (.cells #[.int .i64 a0_0, (.slice A0_1 l0_1.length c0_1), (.slice A0_2 l0_2.length c0_2), (.slice A0_3 l0_3.length c0_3)] 37 (0, 0))) ∧ Aside0 (w'.heap[gb357]? = some (.cells #[(.slice A1_0 l1_0.length c1_0), (.slice A1_1 l1_1.length c1_1), (.slice A1_2 l1_2.length c1_2), (.slice A1_3 l1_3.length c1_3), (.slice A1_4 l1_4.length c1_4)] 27 (0, 0))) ∧ Aside0 (Below w.heap.size w w'))
  case atStart => exact ⟨(0), (by first | rfl | (simp; done) | (simp [*]; done)), H', ⟨Nat.le_refl _⟩, ⟨by (with_reducible repeat (first | apply Kd.R_alloc | apply Kd.R_drewN | apply Kd.R_drew)); exact HO_6.out⟩, ⟨bk BK356.out⟩, ⟨bk BK357.out⟩, ⟨bl⟩⟩
  clear H'
  clear c11b0 hcz21_0 hcz21_1 hcz21_2 hcz21_3 hfz21_0 hfz21_1 hfz21_2 hfz21_3
  obtain ⟨x36_2, rfl, HA, HK2, HO_6, BK356, BK357, HB⟩ := hrel
  cases gk with
  | zero => exact absurd HA.out (by simp [maskref4_AskedFault.l1])
  | succ k2 =>
   have H := HA.out
   clear HA
   simp only [maskref4_AskedFault.l1] at H
   by_cases c22 : x36_2 < (l0_1.length : Int)
   · rw [if_pos c22] at H
     have c22b0 : decide (x36_2 < (l0_1.length : Int)) = true := decide_eq_true c22
     clear c22
     by_cases c23 : 0 ≤ x36_2
     rotate_left
     · rw [if_neg c23] at H
       exact absurd H (by simp)
     rw [if_pos c23] at H
     have c23b0 : decide (0 ≤ x36_2) = true := decide_eq_true c23
     clear c23
     by_cases c24 : x36_2 < (l0_1.length : Int)
     rotate_left
     · rw [if_neg c24] at H
       exact absurd H (by simp)
     rw [if_pos c24] at H
     have c24b0 : decide (x36_2 < (l0_1.length : Int)) = true := decide_eq_true c24
     clear c24
     replace H := Option.bind_eq_some_iff.mp H
     obtain ⟨t366, A250, H⟩ := H
     replace H : (if t366 = true then (maskref4_AskedFault.l1 k2 x6_1 l0_1 (l0_1.length : Int) (wrap64 (x36_2 + 1)) a0_0 l0_1 l0_2 l0_3 l1_0 l1_1 l1_2 l1_3 l1_4) else (some 7)) = some r := H
     have A25 := Aside0.mk A250
     clear A250
     by_cases c26 : t366 = true
     rotate_left
     · replace c26 := Bool.eq_false_iff.mpr c26
       subst c26
       have H1 : (some 7) = some r := by rw [if_neg (show ¬ (false = true) by decide)] at H; exact H
       clear H
       have H := H1
       clear H1
       obtain rfl := Option.some.inj H
       have p364 : 0 ≤ (x36_2 : Int) := of_decide_eq_true (by first | (with_reducible assumption) | assumption)
       have q364 : x36_2 < (l0_1.length : Int) := of_decide_eq_true (by first | (with_reducible assumption) | assumption)
       obtain ⟨ad364, e364, hx364_0, hx364_1, hx364_2⟩ := at_T78 HR0_1.out x36_2 p364 q364
       cases e364
       replace hx364_0 := hc HB.out hx364_0
       replace hx364_1 := hc HB.out hx364_1
       replace hx364_2 := hc HB.out hx364_2
       replace p364 := eq_true p364
       replace q364 := eq_true q364
       go_wp2_with (first | ((with_reducible refine gate_dst (N := 10) rfl ?_); refine box_event ?hg (N := 10) ?hd (cs := #[.string (⟨#[]⟩ : ByteArray), .int .i64 0, .int .i64 0]) (t := 78) ?hr ?_; (case hd => rfl); (case hg => rfl); (case hr => first | (go_simp; done) | (go_simp; rfl)); intro gb365 hg w33 hbox hb; have n0_ := Aside0.mk (rb HO_6.out hb); have n1_ := Aside0.mk (bb BK356.out hb); have n2_ := Aside0.mk (bb BK357.out hb); have n3_ := Aside0.mk (below_step bl hb); have n4_ := Aside0.mk (hbox); have n5_ := Aside0.mk (ge (w := w) hg); have n6_ := Aside0.mk (ge (w := w) hg); have n7_ := Aside0.mk (nl hg (bk BK356.out)); have n8_ := Aside0.mk (ng hg (bk BK356.out)); have n9_ := Aside0.mk (nl hg (bk BK357.out)); have n10_ := Aside0.mk (ng hg (bk BK357.out)); clear HO_6; clear BK356; clear BK357; clear HB; have BK357 := n2_; have HB := n3_; have BK365 := n4_; have GE365 := n6_; have NB356_365 := n7_; have NB365_356 := n8_; have NB357_365 := n9_; have NB365_357 := n10_; clear n0_ n1_ n2_ n3_ n4_ n5_ n6_ n7_ n8_ n9_ n10_; clear hb hbox hg; have hnc35 := NB357_365.out; obtain ⟨hcz36_0, hcz36_1, hcz36_2, hfz36_0, hfz36_1, hfz36_2⟩ := bz3 BK365.out; have hnb37 := NB357_356.out; have hnc37 := NB356_357.out; obtain ⟨hcz38_0, -, -, -, -, -, -, -, -, hfz38_4⟩ := bz5 BK357.out) | ((with_reducible refine gate_callee (f := 30) rfl ?_); refine goesL_ (some 44) rfl rfl Tryd.func30 (by kernel_rfl) rfl #[.string ((rd_T78 l0_1 x36_2).f0), .slice A1_0 l1_0.length c1_0] rfl (by (try simp only [List.map_toArray, List.map_cons, List.map_nil]); first | done | rfl | (simp only [List.length_drop, List.length_take]; rfl)) ?_; (with_reducible refine (maskref4_among.calls k2 ((rd_T78 l0_1 x36_2).f0) _ _ l1_0 false _ ?side1 ?side2 A25.out).mono ?_); (case side1 => exact Kd.C_below HR1_0.out bl); (case side2 => exact HC1_0.out); rintro e w' ⟨rfl, ⟨nd, rfl⟩⟩; refine ⟨_, rfl, ?_⟩))
       go_ret
       exact ⟨by first | rfl | (simp [errW_none, errW_some] <;> rfl) | (simp [*, errW_none, errW_some] <;> rfl), bl⟩
     subst c26
     have H1 : (maskref4_AskedFault.l1 k2 x6_1 l0_1 (l0_1.length : Int) (wrap64 (x36_2 + 1)) a0_0 l0_1 l0_2 l0_3 l1_0 l1_1 l1_2 l1_3 l1_4) = some r := by rw [if_pos rfl] at H; exact H
     clear H
     have H := H1
     clear H1
     have H' := Aside0.mk H
     clear H
     have p364 : 0 ≤ (x36_2 : Int) := of_decide_eq_true (by first | (with_reducible assumption) | assumption)
     have q364 : x36_2 < (l0_1.length : Int) := of_decide_eq_true (by first | (with_reducible assumption) | assumption)
     obtain ⟨ad364, e364, hx364_0, hx364_1, hx364_2⟩ := at_T78 HR0_1.out x36_2 p364 q364
     cases e364
     replace hx364_0 := hc HB.out hx364_0
     replace hx364_1 := hc HB.out hx364_1
     replace hx364_2 := hc HB.out hx364_2
     replace p364 := eq_true p364
     replace q364 := eq_true q364
     go_wp2_with (first | ((with_reducible refine gate_dst (N := 10) rfl ?_); refine box_event ?hg (N := 10) ?hd (cs := #[.string (⟨#[]⟩ : ByteArray), .int .i64 0, .int .i64 0]) (t := 78) ?hr ?_; (case hd => rfl); (case hg => rfl); (case hr => first | (go_simp; done) | (go_simp; rfl)); intro gb365 hg w27 hbox hb; have n0_ := Aside0.mk (rb HO_6.out hb); have n1_ := Aside0.mk (bb BK356.out hb); have n2_ := Aside0.mk (bb BK357.out hb); have n3_ := Aside0.mk (below_step bl hb); have n4_ := Aside0.mk (hbox); have n5_ := Aside0.mk (ge (w := w) hg); have n6_ := Aside0.mk (ge (w := w) hg); have n7_ := Aside0.mk (nl hg (bk BK356.out)); have n8_ := Aside0.mk (ng hg (bk BK356.out)); have n9_ := Aside0.mk (nl hg (bk BK357.out)); have n10_ := Aside0.mk (ng hg (bk BK357.out)); clear HO_6; clear BK356; clear BK357; clear HB; have HO_6 := n0_; have BK356 := n1_; have BK357 := n2_; have HB := n3_; have BK365 := n4_; have GE365 := n6_; have NB356_365 := n7_; have NB365_356 := n8_; have NB357_365 := n9_; have NB365_357 := n10_; clear n0_ n1_ n2_ n3_ n4_ n5_ n6_ n7_ n8_ n9_ n10_; clear hb hbox hg; have hnc29 := NB357_365.out; obtain ⟨hcz30_0, hcz30_1, hcz30_2, hfz30_0, hfz30_1, hfz30_2⟩ := bz3 BK365.out; have hnb31 := NB357_356.out; have hnc31 := NB356_357.out; obtain ⟨hcz32_0, -, -, -, -, -, -, -, -, hfz32_4⟩ := bz5 BK357.out) | ((with_reducible refine gate_callee (f := 30) rfl ?_); refine goesL_ (some 44) rfl rfl Tryd.func30 (by kernel_rfl) rfl #[.string ((rd_T78 l0_1 x36_2).f0), .slice A1_0 l1_0.length c1_0] rfl (by (try simp only [List.map_toArray, List.map_cons, List.map_nil]); first | done | rfl | (simp only [List.length_drop, List.length_take]; rfl)) ?_; (with_reducible refine (maskref4_among.calls k2 ((rd_T78 l0_1 x36_2).f0) _ _ l1_0 true _ ?side1 ?side2 A25.out).mono ?_); (case side1 => exact Kd.C_below HR1_0.out bl); (case side2 => exact HC1_0.out); rintro e w' ⟨rfl, ⟨nd, rfl⟩⟩; refine ⟨_, rfl, ?_⟩))
     go_roundg k2
     case measure => have := HK1.out; have := HK2.out; omega
     case rel => exact ⟨(wrap64 (x36_2 + 1)), (by first | rfl | (simp; done) | (simp [*]; done)), H', ⟨by have := HK1.out; have := HK2.out; omega⟩, ⟨by (with_reducible repeat (first | apply Kd.R_alloc | apply Kd.R_drewN | apply Kd.R_drew)); exact Kd.R_mono (Kd.R_far (p := ⟨gb365, 2, none⟩) (Kd.R_far (p := ⟨gb365, 1, none⟩) (Kd.R_far (p := ⟨gb365, 0, none⟩) (Kd.R_types HO_6.out BK365.out (by decide)) (fun _ hk => hk.2) (.string ((rd_T78 l0_1 x36_2).f0))) (fun _ hk => hk.2) (.int .i64 ((rd_T78 l0_1 x36_2).f1.f0))) (fun _ hk => hk.2) (.int .i64 ((rd_T78 l0_1 x36_2).f1.f1))) (fun _ hk => trivial)⟩, ⟨bf BK356.out⟩, ⟨bf BK357.out⟩, ⟨bl⟩⟩
   rw [if_neg c22] at H
   have c22b0 : decide (x36_2 < (l0_1.length : Int)) = false := decide_eq_false c22
   clear c22
   have H' := Aside0.mk H
   clear H
   obtain ⟨hcz40_0, hcz40_1, hcz40_2, hcz40_3, hfz40_0, hfz40_1, hfz40_2, hfz40_3⟩ := bz4 BK356.out
   go_wp2
   go_loopg [50] k2 (fun kq v50 w' => ∃ (x50_3 : Int), v50 = .int .i64 x50_3 ∧ Aside0 (maskref4_AskedFault.l2 kq x6_1 l0_2 (l0_2.length : Int) x50_3 a0_0 l0_1 l0_2 l0_3 l1_0 l1_1 l1_2 l1_3 l1_4 = some r) ∧ Aside0 (kq ≤ k2) ∧ Aside0 (Kd.R Kd.string 9 w' w.heap.size (fun _ => True) u6 x6_1) ∧ Aside0 (w'.heap[gb356]? = some (.cells #[.int .i64 a0_0, (.slice A0_1 l0_1.length c0_1), (.slice A0_2 l0_2.length c0_2), (.slice A0_3 l0_3.length c0_3)] 37 (0, 0))) ∧ Aside0 (w'.heap[gb357]? = some (.cells #[(.slice A1_0 l1_0.length c1_0), (.slice A1_1 l1_1.length c1_1), (.slice A1_2 l1_2.length c1_2), (.slice A1_3 l1_3.length c1_3), (.slice A1_4 l1_4.length c1_4)] 27 (0, 0))) ∧ Aside0 (Below w.heap.size w w'))
   case atStart => exact ⟨(0), (by first | rfl | (simp; done) | (simp [*]; done)), H', ⟨Nat.le_refl _⟩, ⟨by (with_reducible repeat (first | apply Kd.R_alloc | apply Kd.R_drewN | apply Kd.R_drew)); exact HO_6.out⟩, ⟨bk BK356.out⟩, ⟨bk BK357.out⟩, ⟨bl⟩⟩
   clear H'
   clear c22b0 hcz40_0 hcz40_1 hcz40_2 hcz40_3 hfz40_0 hfz40_1 hfz40_2 hfz40_3
   obtain ⟨x50_3, rfl, HA, HK3, HO_6, BK356, BK357, HB⟩ := hrel
   cases gk with
   | zero => exact absurd HA.out (by simp [maskref4_AskedFault.l2])
   | succ k3 =>
    have H := HA.out
    clear HA
    simp only [maskref4_AskedFault.l2] at H
    by_cases c41 : x50_3 < (l0_2.length : Int)
    · rw [if_pos c41] at H
      have c41b0 : decide (x50_3 < (l0_2.length : Int)) = true := decide_eq_true c41
      clear c41
      by_cases c42 : 0 ≤ x50_3
      rotate_left
      · rw [if_neg c42] at H
        exact absurd H (by simp)
      rw [if_pos c42] at H
      have c42b0 : decide (0 ≤ x50_3) = true := decide_eq_true c42
      clear c42
      by_cases c43 : x50_3 < (l0_2.length : Int)
      rotate_left
      · rw [if_neg c43] at H
        exact absurd H (by simp)
      rw [if_pos c43] at H
      have c43b0 : decide (x50_3 < (l0_2.length : Int)) = true := decide_eq_true c43
      clear c43
      replace H := Option.bind_eq_some_iff.mp H
      obtain ⟨t369, A440, H⟩ := H
      replace H : (if t369 = true then (maskref4_AskedFault.l2 k3 x6_1 l0_2 (l0_2.length : Int) (wrap64 (x50_3 + 1)) a0_0 l0_1 l0_2 l0_3 l1_0 l1_1 l1_2 l1_3 l1_4) else (some 7)) = some r := H
      have A44 := Aside0.mk A440
      clear A440
      by_cases c45 : t369 = true
      rotate_left
      · replace c45 := Bool.eq_false_iff.mpr c45
        subst c45
        have H1 : (some 7) = some r := by rw [if_neg (show ¬ (false = true) by decide)] at H; exact H
        clear H
        have H := H1
        clear H1
        obtain rfl := Option.some.inj H
        have p367 : 0 ≤ (x50_3 : Int) := of_decide_eq_true (by first | (with_reducible assumption) | assumption)
        have q367 : x50_3 < (l0_2.length : Int) := of_decide_eq_true (by first | (with_reducible assumption) | assumption)
        obtain ⟨ad367, e367, hx367_0, hx367_1⟩ := at_T81 HR0_2.out x50_3 p367 q367
        cases e367
        replace hx367_0 := hc HB.out hx367_0
        replace hx367_1 := hc HB.out hx367_1
        replace p367 := eq_true p367
        replace q367 := eq_true q367
        go_wp2_with (first | ((with_reducible refine gate_dst (N := 12) rfl ?_); refine box_event ?hg (N := 12) ?hd (cs := #[.string (⟨#[]⟩ : ByteArray), .int .i64 0]) (t := 81) ?hr ?_; (case hd => rfl); (case hg => rfl); (case hr => first | (go_simp; done) | (go_simp; rfl)); intro gb368 hg w52 hbox hb; have n0_ := Aside0.mk (rb HO_6.out hb); have n1_ := Aside0.mk (bb BK356.out hb); have n2_ := Aside0.mk (bb BK357.out hb); have n3_ := Aside0.mk (below_step bl hb); have n4_ := Aside0.mk (hbox); have n5_ := Aside0.mk (ge (w := w) hg); have n6_ := Aside0.mk (ge (w := w) hg); have n7_ := Aside0.mk (nl hg (bk BK356.out)); have n8_ := Aside0.mk (ng hg (bk BK356.out)); have n9_ := Aside0.mk (nl hg (bk BK357.out)); have n10_ := Aside0.mk (ng hg (bk BK357.out)); clear HO_6; clear BK356; clear BK357; clear HB; have BK357 := n2_; have HB := n3_; have BK368 := n4_; have GE368 := n6_; have NB356_368 := n7_; have NB368_356 := n8_; have NB357_368 := n9_; have NB368_357 := n10_; clear n0_ n1_ n2_ n3_ n4_ n5_ n6_ n7_ n8_ n9_ n10_; clear hb hbox hg; have hnc54 := NB357_368.out; obtain ⟨hcz55_0, hcz55_1, hfz55_0, hfz55_1⟩ := bz2 BK368.out; have hnb56 := NB357_356.out; have hnc56 := NB356_357.out; obtain ⟨-, hcz57_1, -, -, -, -, -, -, -, hfz57_4⟩ := bz5 BK357.out) | ((with_reducible refine gate_callee (f := 30) rfl ?_); refine goesL_ (some 58) rfl rfl Tryd.func30 (by kernel_rfl) rfl #[.string ((rd_T81 l0_2 x50_3).f0), .slice A1_1 l1_1.length c1_1] rfl (by (try simp only [List.map_toArray, List.map_cons, List.map_nil]); first | done | rfl | (simp only [List.length_drop, List.length_take]; rfl)) ?_; (with_reducible refine (maskref4_among.calls k3 ((rd_T81 l0_2 x50_3).f0) _ _ l1_1 false _ ?side1 ?side2 A44.out).mono ?_); (case side1 => exact Kd.C_below HR1_1.out bl); (case side2 => exact HC1_1.out); rintro e w' ⟨rfl, ⟨nd, rfl⟩⟩; refine ⟨_, rfl, ?_⟩))
        go_ret
        exact ⟨by first | rfl | (simp [errW_none, errW_some] <;> rfl) | (simp [*, errW_none, errW_some] <;> rfl), bl⟩
      subst c45
      have H1 : (maskref4_AskedFault.l2 k3 x6_1 l0_2 (l0_2.length : Int) (wrap64 (x50_3 + 1)) a0_0 l0_1 l0_2 l0_3 l1_0 l1_1 l1_2 l1_3 l1_4) = some r := by rw [if_pos rfl] at H; exact H
      clear H
      have H := H1
      clear H1
      have H' := Aside0.mk H
      clear H
      have p367 : 0 ≤ (x50_3 : Int) := of_decide_eq_true (by first | (with_reducible assumption) | assumption)
      have q367 : x50_3 < (l0_2.length : Int) := of_decide_eq_true (by first | (with_reducible assumption) | assumption)
      obtain ⟨ad367, e367, hx367_0, hx367_1⟩ := at_T81 HR0_2.out x50_3 p367 q367
      cases e367
      replace hx367_0 := hc HB.out hx367_0
      replace hx367_1 := hc HB.out hx367_1
      replace p367 := eq_true p367
      replace q367 := eq_true q367
      go_wp2_with (first | ((with_reducible refine gate_dst (N := 12) rfl ?_); refine box_event ?hg (N := 12) ?hd (cs := #[.string (⟨#[]⟩ : ByteArray), .int .i64 0]) (t := 81) ?hr ?_; (case hd => rfl); (case hg => rfl); (case hr => first | (go_simp; done) | (go_simp; rfl)); intro gb368 hg w46 hbox hb; have n0_ := Aside0.mk (rb HO_6.out hb); have n1_ := Aside0.mk (bb BK356.out hb); have n2_ := Aside0.mk (bb BK357.out hb); have n3_ := Aside0.mk (below_step bl hb); have n4_ := Aside0.mk (hbox); have n5_ := Aside0.mk (ge (w := w) hg); have n6_ := Aside0.mk (ge (w := w) hg); have n7_ := Aside0.mk (nl hg (bk BK356.out)); have n8_ := Aside0.mk (ng hg (bk BK356.out)); have n9_ := Aside0.mk (nl hg (bk BK357.out)); have n10_ := Aside0.mk (ng hg (bk BK357.out)); clear HO_6; clear BK356; clear BK357; clear HB; have HO_6 := n0_; have BK356 := n1_; have BK357 := n2_; have HB := n3_; have BK368 := n4_; have GE368 := n6_; have NB356_368 := n7_; have NB368_356 := n8_; have NB357_368 := n9_; have NB368_357 := n10_; clear n0_ n1_ n2_ n3_ n4_ n5_ n6_ n7_ n8_ n9_ n10_; clear hb hbox hg; have hnc48 := NB357_368.out; obtain ⟨hcz49_0, hcz49_1, hfz49_0, hfz49_1⟩ := bz2 BK368.out; have hnb50 := NB357_356.out; have hnc50 := NB356_357.out; obtain ⟨-, hcz51_1, -, -, -, -, -, -, -, hfz51_4⟩ := bz5 BK357.out) | ((with_reducible refine gate_callee (f := 30) rfl ?_); refine goesL_ (some 58) rfl rfl Tryd.func30 (by kernel_rfl) rfl #[.string ((rd_T81 l0_2 x50_3).f0), .slice A1_1 l1_1.length c1_1] rfl (by (try simp only [List.map_toArray, List.map_cons, List.map_nil]); first | done | rfl | (simp only [List.length_drop, List.length_take]; rfl)) ?_; (with_reducible refine (maskref4_among.calls k3 ((rd_T81 l0_2 x50_3).f0) _ _ l1_1 true _ ?side1 ?side2 A44.out).mono ?_); (case side1 => exact Kd.C_below HR1_1.out bl); (case side2 => exact HC1_1.out); rintro e w' ⟨rfl, ⟨nd, rfl⟩⟩; refine ⟨_, rfl, ?_⟩))
      go_roundg k3
      case measure => have := HK1.out; have := HK2.out; have := HK3.out; omega
      case rel => exact ⟨(wrap64 (x50_3 + 1)), (by first | rfl | (simp; done) | (simp [*]; done)), H', ⟨by have := HK1.out; have := HK2.out; have := HK3.out; omega⟩, ⟨by (with_reducible repeat (first | apply Kd.R_alloc | apply Kd.R_drewN | apply Kd.R_drew)); exact Kd.R_mono (Kd.R_far (p := ⟨gb368, 1, none⟩) (Kd.R_far (p := ⟨gb368, 0, none⟩) (Kd.R_types HO_6.out BK368.out (by decide)) (fun _ hk => hk.2) (.string ((rd_T81 l0_2 x50_3).f0))) (fun _ hk => hk.2) (.int .i64 ((rd_T81 l0_2 x50_3).f1))) (fun _ hk => trivial)⟩, ⟨bf BK356.out⟩, ⟨bf BK357.out⟩, ⟨bl⟩⟩
    rw [if_neg c41] at H
    have c41b0 : decide (x50_3 < (l0_2.length : Int)) = false := decide_eq_false c41
    clear c41
    have H' := Aside0.mk H
    clear H
    obtain ⟨hcz59_0, hcz59_1, hcz59_2, hcz59_3, hfz59_0, hfz59_1, hfz59_2, hfz59_3⟩ := bz4 BK356.out
    go_wp2
    go_loopg [64] k3 (fun kq v64 w' => ∃ (x64_4 : Int), v64 = .int .i64 x64_4 ∧ Aside0 (maskref4_AskedFault.l3 kq x6_1 l0_3 (l0_3.length : Int) x64_4 l1_0 l1_1 l1_2 l1_3 l1_4 = some r) ∧ Aside0 (kq ≤ k3) ∧ Aside0 (Kd.R Kd.string 9 w' w.heap.size (fun _ => True) u6 x6_1) ∧ Aside0 (w'.heap[gb356]? = some (.cells #[.int .i64 a0_0, (.slice A0_1 l0_1.length c0_1), (.slice A0_2 l0_2.length c0_2), (.slice A0_3 l0_3.length c0_3)] 37 (0, 0))) ∧ Aside0 (w'.heap[gb357]? = some (.cells #[(.slice A1_0 l1_0.length c1_0), (.slice A1_1 l1_1.length c1_1), (.slice A1_2 l1_2.length c1_2), (.slice A1_3 l1_3.length c1_3), (.slice A1_4 l1_4.length c1_4)] 27 (0, 0))) ∧ Aside0 (Below w.heap.size w w'))
    case atStart => exact ⟨(0), (by first | rfl | (simp; done) | (simp [*]; done)), H', ⟨Nat.le_refl _⟩, ⟨by (with_reducible repeat (first | apply Kd.R_alloc | apply Kd.R_drewN | apply Kd.R_drew)); exact HO_6.out⟩, ⟨bk BK356.out⟩, ⟨bk BK357.out⟩, ⟨bl⟩⟩
    clear H'
    clear c41b0 hcz59_0 hcz59_1 hcz59_2 hcz59_3 hfz59_0 hfz59_1 hfz59_2 hfz59_3
    obtain ⟨x64_4, rfl, HA, HK4, HO_6, BK356, BK357, HB⟩ := hrel
    cases gk with
    | zero => exact absurd HA.out (by simp [maskref4_AskedFault.l3])
    | succ k4 =>
     have H := HA.out
     clear HA
     simp only [maskref4_AskedFault.l3] at H
     by_cases c60 : x64_4 < (l0_3.length : Int)
     rotate_left
     · rw [if_neg c60] at H
       have c60b0 : decide (x64_4 < (l0_3.length : Int)) = false := decide_eq_false c60
       clear c60
       obtain rfl := Option.some.inj H
       go_wp2
       go_ret
       exact ⟨by first | rfl | (simp [errW_none, errW_some] <;> rfl) | (simp [*, errW_none, errW_some] <;> rfl), bl⟩
     rw [if_pos c60] at H
     have c60b0 : decide (x64_4 < (l0_3.length : Int)) = true := decide_eq_true c60
     clear c60
     by_cases c61 : 0 ≤ x64_4
     rotate_left
     · rw [if_neg c61] at H
       exact absurd H (by simp)
     rw [if_pos c61] at H
     have c61b0 : decide (0 ≤ x64_4) = true := decide_eq_true c61
     clear c61
     by_cases c62 : x64_4 < (l0_3.length : Int)
     rotate_left
     · rw [if_neg c62] at H
       exact absurd H (by simp)
     rw [if_pos c62] at H
     have c62b0 : decide (x64_4 < (l0_3.length : Int)) = true := decide_eq_true c62
     clear c62
     by_cases c63 : ((rd_T83 l0_3 x64_4).f0).toList = ([] : List UInt8)
     · rw [if_pos c63] at H
       have c63b0 : (((rd_T83 l0_3 x64_4).f0).toList == ([] : List UInt8)) = true := beq_iff_eq.mpr c63
       have c63b1 : (((rd_T83 l0_3 x64_4).f0).toList != ([] : List UInt8)) = false := bne_eq_false_iff_eq.mpr c63
       clear c63
       by_cases c64 : ((rd_T83 l0_3 x64_4).f1).toList = ([] : List UInt8)
       · rw [if_pos c64] at H
         have c64b0 : (((rd_T83 l0_3 x64_4).f1).toList == ([] : List UInt8)) = true := beq_iff_eq.mpr c64
         clear c64
         have H' := Aside0.mk H
         clear H
         have p370 : 0 ≤ (x64_4 : Int) := of_decide_eq_true (by first | (with_reducible assumption) | assumption)
         have q370 : x64_4 < (l0_3.length : Int) := of_decide_eq_true (by first | (with_reducible assumption) | assumption)
         obtain ⟨ad370, e370, hx370_0, hx370_1, hx370_2⟩ := at_T83 HR0_3.out x64_4 p370 q370
         cases e370
         replace hx370_0 := hc HB.out hx370_0
         replace hx370_1 := hc HB.out hx370_1
         replace hx370_2 := hc HB.out hx370_2
         replace p370 := eq_true p370
         replace q370 := eq_true q370
         go_wp2_with ((with_reducible refine gate_dst (N := 14) rfl ?_); refine box_event ?hg (N := 14) ?hd (cs := #[.string (⟨#[]⟩ : ByteArray), .string (⟨#[]⟩ : ByteArray), .int .i64 0]) (t := 83) ?hr ?_; (case hd => rfl); (case hg => rfl); (case hr => first | (go_simp; done) | (go_simp; rfl)); intro gb371 hg w65 hbox hb; have n0_ := Aside0.mk (rb HO_6.out hb); have n1_ := Aside0.mk (bb BK356.out hb); have n2_ := Aside0.mk (bb BK357.out hb); have n3_ := Aside0.mk (below_step bl hb); have n4_ := Aside0.mk (hbox); have n5_ := Aside0.mk (ge (w := w) hg); have n6_ := Aside0.mk (ge (w := w) hg); have n7_ := Aside0.mk (nl hg (bk BK356.out)); have n8_ := Aside0.mk (ng hg (bk BK356.out)); have n9_ := Aside0.mk (nl hg (bk BK357.out)); have n10_ := Aside0.mk (ng hg (bk BK357.out)); clear HO_6; clear BK356; clear BK357; clear HB; have HO_6 := n0_; have BK356 := n1_; have BK357 := n2_; have HB := n3_; have BK371 := n4_; have GE371 := n6_; have NB356_371 := n7_; have NB371_356 := n8_; have NB357_371 := n9_; have NB371_357 := n10_; clear n0_ n1_ n2_ n3_ n4_ n5_ n6_ n7_ n8_ n9_ n10_; clear hb hbox hg; obtain ⟨hcz68_0, hcz68_1, hcz68_2, hfz68_0, hfz68_1, hfz68_2⟩ := bz3 BK371.out)
         go_roundg k4
         case measure => have := HK1.out; have := HK2.out; have := HK3.out; have := HK4.out; omega
         case rel => exact ⟨(wrap64 (x64_4 + 1)), (by first | rfl | (simp; done) | (simp [*]; done)), H', ⟨by have := HK1.out; have := HK2.out; have := HK3.out; have := HK4.out; omega⟩, ⟨by (with_reducible repeat (first | apply Kd.R_alloc | apply Kd.R_drewN | apply Kd.R_drew)); exact Kd.R_mono (Kd.R_far (p := ⟨gb371, 2, none⟩) (Kd.R_far (p := ⟨gb371, 1, none⟩) (Kd.R_far (p := ⟨gb371, 0, none⟩) (Kd.R_types HO_6.out BK371.out (by decide)) (fun _ hk => hk.2) (.string ((rd_T83 l0_3 x64_4).f0))) (fun _ hk => hk.2) (.string ((rd_T83 l0_3 x64_4).f1))) (fun _ hk => hk.2) (.int .i64 ((rd_T83 l0_3 x64_4).f2))) (fun _ hk => trivial)⟩, ⟨bf BK356.out⟩, ⟨bf BK357.out⟩, ⟨bl⟩⟩
       rw [if_neg c64] at H
       have c64b0 : (((rd_T83 l0_3 x64_4).f1).toList == ([] : List UInt8)) = false := beq_eq_false_iff_ne.mpr c64
       replace H := Option.bind_eq_some_iff.mp H
       obtain ⟨t372, A690, H⟩ := H
       replace H : (if t372 = true then (maskref4_AskedFault.l3 k4 x6_1 l0_3 (l0_3.length : Int) (wrap64 (x64_4 + 1)) l1_0 l1_1 l1_2 l1_3 l1_4) else ((maskref4_among.f k4 ((rd_T83 l0_3 x64_4).f1) x6_1).bind fun t373 => (if t373 = true then (maskref4_AskedFault.l3 k4 x6_1 l0_3 (l0_3.length : Int) (wrap64 (x64_4 + 1)) l1_0 l1_1 l1_2 l1_3 l1_4) else (some 7)))) = some r := H
       have A69 := Aside0.mk A690
       clear A690
       by_cases c70 : t372 = true
       · subst c70
         have H1 : (maskref4_AskedFault.l3 k4 x6_1 l0_3 (l0_3.length : Int) (wrap64 (x64_4 + 1)) l1_0 l1_1 l1_2 l1_3 l1_4) = some r := by rw [if_pos rfl] at H; exact H
         clear H
         have H := H1
         clear H1
         have H' := Aside0.mk H
         clear H
         have p370 : 0 ≤ (x64_4 : Int) := of_decide_eq_true (by first | (with_reducible assumption) | assumption)
         have q370 : x64_4 < (l0_3.length : Int) := of_decide_eq_true (by first | (with_reducible assumption) | assumption)
         obtain ⟨ad370, e370, hx370_0, hx370_1, hx370_2⟩ := at_T83 HR0_3.out x64_4 p370 q370
         cases e370
         replace hx370_0 := hc HB.out hx370_0
         replace hx370_1 := hc HB.out hx370_1
         replace hx370_2 := hc HB.out hx370_2
         replace p370 := eq_true p370
         replace q370 := eq_true q370
         go_wp2_with (first | ((with_reducible refine gate_dst (N := 14) rfl ?_); refine box_event ?hg (N := 14) ?hd (cs := #[.string (⟨#[]⟩ : ByteArray), .string (⟨#[]⟩ : ByteArray), .int .i64 0]) (t := 83) ?hr ?_; (case hd => rfl); (case hg => rfl); (case hr => first | (go_simp; done) | (go_simp; rfl)); intro gb371 hg w71 hbox hb; have n0_ := Aside0.mk (rb HO_6.out hb); have n1_ := Aside0.mk (bb BK356.out hb); have n2_ := Aside0.mk (bb BK357.out hb); have n3_ := Aside0.mk (below_step bl hb); have n4_ := Aside0.mk (hbox); have n5_ := Aside0.mk (ge (w := w) hg); have n6_ := Aside0.mk (ge (w := w) hg); have n7_ := Aside0.mk (nl hg (bk BK356.out)); have n8_ := Aside0.mk (ng hg (bk BK356.out)); have n9_ := Aside0.mk (nl hg (bk BK357.out)); have n10_ := Aside0.mk (ng hg (bk BK357.out)); clear HO_6; clear BK356; clear BK357; clear HB; have HO_6 := n0_; have BK356 := n1_; have BK357 := n2_; have HB := n3_; have BK371 := n4_; have GE371 := n6_; have NB356_371 := n7_; have NB371_356 := n8_; have NB357_371 := n9_; have NB371_357 := n10_; clear n0_ n1_ n2_ n3_ n4_ n5_ n6_ n7_ n8_ n9_ n10_; clear hb hbox hg; have hnc73 := NB357_371.out; obtain ⟨hcz74_0, hcz74_1, hcz74_2, hfz74_0, hfz74_1, hfz74_2⟩ := bz3 BK371.out; have hnb75 := NB357_356.out; have hnc75 := NB356_357.out; obtain ⟨-, hcz76_1, -, -, -, -, -, -, -, hfz76_4⟩ := bz5 BK357.out) | (go_at_call 30; (with_reducible refine (maskref4_among.calls k4 ((rd_T83 l0_3 x64_4).f1) _ _ l1_1 true _ ?side1 ?side2 A69.out).mono ?_); (case side1 => exact Kd.C_below HR1_1.out bl); (case side2 => exact HC1_1.out); rintro e w' ⟨rfl, ⟨nd, rfl⟩⟩))
         go_roundg k4
         case measure => have := HK1.out; have := HK2.out; have := HK3.out; have := HK4.out; omega
         case rel => exact ⟨(wrap64 (x64_4 + 1)), (by first | rfl | (simp; done) | (simp [*]; done)), H', ⟨by have := HK1.out; have := HK2.out; have := HK3.out; have := HK4.out; omega⟩, ⟨by (with_reducible repeat (first | apply Kd.R_alloc | apply Kd.R_drewN | apply Kd.R_drew)); exact Kd.R_mono (Kd.R_far (p := ⟨gb371, 2, none⟩) (Kd.R_far (p := ⟨gb371, 1, none⟩) (Kd.R_far (p := ⟨gb371, 0, none⟩) (Kd.R_types HO_6.out BK371.out (by decide)) (fun _ hk => hk.2) (.string ((rd_T83 l0_3 x64_4).f0))) (fun _ hk => hk.2) (.string ((rd_T83 l0_3 x64_4).f1))) (fun _ hk => hk.2) (.int .i64 ((rd_T83 l0_3 x64_4).f2))) (fun _ hk => trivial)⟩, ⟨bf BK356.out⟩, ⟨bf BK357.out⟩, ⟨bl⟩⟩
       replace c70 := Bool.eq_false_iff.mpr c70
       subst c70
       have H1 : ((maskref4_among.f k4 ((rd_T83 l0_3 x64_4).f1) x6_1).bind fun t373 => (if t373 = true then (maskref4_AskedFault.l3 k4 x6_1 l0_3 (l0_3.length : Int) (wrap64 (x64_4 + 1)) l1_0 l1_1 l1_2 l1_3 l1_4) else (some 7))) = some r := by rw [if_neg (show ¬ (false = true) by decide)] at H; exact H
       clear H
       have H := H1
       clear H1
       replace H := Option.bind_eq_some_iff.mp H
       obtain ⟨t373, A770, H⟩ := H
       replace H : (if t373 = true then (maskref4_AskedFault.l3 k4 x6_1 l0_3 (l0_3.length : Int) (wrap64 (x64_4 + 1)) l1_0 l1_1 l1_2 l1_3 l1_4) else (some 7)) = some r := H
       have A77 := Aside0.mk A770
       clear A770
       by_cases c78 : t373 = true
       rotate_left
       · replace c78 := Bool.eq_false_iff.mpr c78
         subst c78
         have H1 : (some 7) = some r := by rw [if_neg (show ¬ (false = true) by decide)] at H; exact H
         clear H
         have H := H1
         clear H1
         obtain rfl := Option.some.inj H
         have p370 : 0 ≤ (x64_4 : Int) := of_decide_eq_true (by first | (with_reducible assumption) | assumption)
         have q370 : x64_4 < (l0_3.length : Int) := of_decide_eq_true (by first | (with_reducible assumption) | assumption)
         obtain ⟨ad370, e370, hx370_0, hx370_1, hx370_2⟩ := at_T83 HR0_3.out x64_4 p370 q370
         cases e370
         replace hx370_0 := hc HB.out hx370_0
         replace hx370_1 := hc HB.out hx370_1
         replace hx370_2 := hc HB.out hx370_2
         replace p370 := eq_true p370
         replace q370 := eq_true q370
         go_wp2_with (first | ((with_reducible refine gate_dst (N := 14) rfl ?_); refine box_event ?hg (N := 14) ?hd (cs := #[.string (⟨#[]⟩ : ByteArray), .string (⟨#[]⟩ : ByteArray), .int .i64 0]) (t := 83) ?hr ?_; (case hd => rfl); (case hg => rfl); (case hr => first | (go_simp; done) | (go_simp; rfl)); intro gb371 hg w86 hbox hb; have n0_ := Aside0.mk (rb HO_6.out hb); have n1_ := Aside0.mk (bb BK356.out hb); have n2_ := Aside0.mk (bb BK357.out hb); have n3_ := Aside0.mk (below_step bl hb); have n4_ := Aside0.mk (hbox); have n5_ := Aside0.mk (ge (w := w) hg); have n6_ := Aside0.mk (ge (w := w) hg); have n7_ := Aside0.mk (nl hg (bk BK356.out)); have n8_ := Aside0.mk (ng hg (bk BK356.out)); have n9_ := Aside0.mk (nl hg (bk BK357.out)); have n10_ := Aside0.mk (ng hg (bk BK357.out)); clear HO_6; clear BK356; clear BK357; clear HB; have HO_6 := n0_; have BK357 := n2_; have HB := n3_; have BK371 := n4_; have GE371 := n6_; have NB356_371 := n7_; have NB371_356 := n8_; have NB357_371 := n9_; have NB371_357 := n10_; clear n0_ n1_ n2_ n3_ n4_ n5_ n6_ n7_ n8_ n9_ n10_; clear hb hbox hg; have hnc88 := NB357_371.out; obtain ⟨hcz89_0, hcz89_1, hcz89_2, hfz89_0, hfz89_1, hfz89_2⟩ := bz3 BK371.out; have hnb90 := NB357_356.out; have hnc90 := NB356_357.out; obtain ⟨-, hcz91_1, -, -, -, -, -, -, -, hfz91_4⟩ := bz5 BK357.out) | (go_at_call 30; (with_reducible refine (maskref4_among.calls k4 ((rd_T83 l0_3 x64_4).f1) _ _ l1_1 false _ ?side1 ?side2 A69.out).mono ?_); (case side1 => exact Kd.C_below HR1_1.out bl); (case side2 => exact HC1_1.out); rintro e w' ⟨rfl, ⟨nd, rfl⟩⟩; obtain ⟨Ao92, co92, eo92⟩ := Kd.R_slice HO_6.out; subst eo92) | (go_at_call 30; (with_reducible refine (maskref4_among.calls k4 ((rd_T83 l0_3 x64_4).f1) _ _ x6_1 false _ ?side1 ?side2 A77.out).mono ?_); (case side1 => refine (Kd.R_reads' (e := 9) (base := w.heap.size) (ok := fun k_ => True) (n := x6_1.length) (c := co92) ?_).2.2; exact (by (with_reducible repeat (first | apply Kd.R_alloc | apply Kd.R_drewN | apply Kd.R_drew)); exact (Kd.R_mono (Kd.R_far (p := ⟨gb371, 2, none⟩) (Kd.R_far (p := ⟨gb371, 1, none⟩) (Kd.R_far (p := ⟨gb371, 0, none⟩) (Kd.R_types HO_6.out BK371.out (by decide)) (fun _ hk => hk.2) (.string ((rd_T83 l0_3 x64_4).f0))) (fun _ hk => hk.2) (.string ((rd_T83 l0_3 x64_4).f1))) (fun _ hk => hk.2) (.int .i64 ((rd_T83 l0_3 x64_4).f2))) (fun _ h_ => h_.1)))); (case side2 => exact (Kd.R_reads' HO_6.out).2.1); rintro e w' ⟨rfl, ⟨nd, rfl⟩⟩))
         go_ret
         exact ⟨by first | rfl | (simp [errW_none, errW_some] <;> rfl) | (simp [*, errW_none, errW_some] <;> rfl), bl⟩
       subst c78
       have H1 : (maskref4_AskedFault.l3 k4 x6_1 l0_3 (l0_3.length : Int) (wrap64 (x64_4 + 1)) l1_0 l1_1 l1_2 l1_3 l1_4) = some r := by rw [if_pos rfl] at H; exact H
       clear H
       have H := H1
       clear H1
       have H' := Aside0.mk H
       clear H
       have p370 : 0 ≤ (x64_4 : Int) := of_decide_eq_true (by first | (with_reducible assumption) | assumption)
       have q370 : x64_4 < (l0_3.length : Int) := of_decide_eq_true (by first | (with_reducible assumption) | assumption)
       obtain ⟨ad370, e370, hx370_0, hx370_1, hx370_2⟩ := at_T83 HR0_3.out x64_4 p370 q370
       cases e370
       replace hx370_0 := hc HB.out hx370_0
       replace hx370_1 := hc HB.out hx370_1
       replace hx370_2 := hc HB.out hx370_2
       replace p370 := eq_true p370
       replace q370 := eq_true q370
       go_wp2_with (first | ((with_reducible refine gate_dst (N := 14) rfl ?_); refine box_event ?hg (N := 14) ?hd (cs := #[.string (⟨#[]⟩ : ByteArray), .string (⟨#[]⟩ : ByteArray), .int .i64 0]) (t := 83) ?hr ?_; (case hd => rfl); (case hg => rfl); (case hr => first | (go_simp; done) | (go_simp; rfl)); intro gb371 hg w79 hbox hb; have n0_ := Aside0.mk (rb HO_6.out hb); have n1_ := Aside0.mk (bb BK356.out hb); have n2_ := Aside0.mk (bb BK357.out hb); have n3_ := Aside0.mk (below_step bl hb); have n4_ := Aside0.mk (hbox); have n5_ := Aside0.mk (ge (w := w) hg); have n6_ := Aside0.mk (ge (w := w) hg); have n7_ := Aside0.mk (nl hg (bk BK356.out)); have n8_ := Aside0.mk (ng hg (bk BK356.out)); have n9_ := Aside0.mk (nl hg (bk BK357.out)); have n10_ := Aside0.mk (ng hg (bk BK357.out)); clear HO_6; clear BK356; clear BK357; clear HB; have HO_6 := n0_; have BK356 := n1_; have BK357 := n2_; have HB := n3_; have BK371 := n4_; have GE371 := n6_; have NB356_371 := n7_; have NB371_356 := n8_; have NB357_371 := n9_; have NB371_357 := n10_; clear n0_ n1_ n2_ n3_ n4_ n5_ n6_ n7_ n8_ n9_ n10_; clear hb hbox hg; have hnc81 := NB357_371.out; obtain ⟨hcz82_0, hcz82_1, hcz82_2, hfz82_0, hfz82_1, hfz82_2⟩ := bz3 BK371.out; have hnb83 := NB357_356.out; have hnc83 := NB356_357.out; obtain ⟨-, hcz84_1, -, -, -, -, -, -, -, hfz84_4⟩ := bz5 BK357.out) | (go_at_call 30; (with_reducible refine (maskref4_among.calls k4 ((rd_T83 l0_3 x64_4).f1) _ _ l1_1 false _ ?side1 ?side2 A69.out).mono ?_); (case side1 => exact Kd.C_below HR1_1.out bl); (case side2 => exact HC1_1.out); rintro e w' ⟨rfl, ⟨nd, rfl⟩⟩; obtain ⟨Ao85, co85, eo85⟩ := Kd.R_slice HO_6.out; subst eo85) | (go_at_call 30; (with_reducible refine (maskref4_among.calls k4 ((rd_T83 l0_3 x64_4).f1) _ _ x6_1 true _ ?side1 ?side2 A77.out).mono ?_); (case side1 => refine (Kd.R_reads' (e := 9) (base := w.heap.size) (ok := fun k_ => True) (n := x6_1.length) (c := co85) ?_).2.2; exact (by (with_reducible repeat (first | apply Kd.R_alloc | apply Kd.R_drewN | apply Kd.R_drew)); exact (Kd.R_mono (Kd.R_far (p := ⟨gb371, 2, none⟩) (Kd.R_far (p := ⟨gb371, 1, none⟩) (Kd.R_far (p := ⟨gb371, 0, none⟩) (Kd.R_types HO_6.out BK371.out (by decide)) (fun _ hk => hk.2) (.string ((rd_T83 l0_3 x64_4).f0))) (fun _ hk => hk.2) (.string ((rd_T83 l0_3 x64_4).f1))) (fun _ hk => hk.2) (.int .i64 ((rd_T83 l0_3 x64_4).f2))) (fun _ h_ => h_.1)))); (case side2 => exact (Kd.R_reads' HO_6.out).2.1); rintro e w' ⟨rfl, ⟨nd, rfl⟩⟩))
       go_roundg k4
       case measure => have := HK1.out; have := HK2.out; have := HK3.out; have := HK4.out; omega
       case rel => exact ⟨(wrap64 (x64_4 + 1)), (by first | rfl | (simp; done) | (simp [*]; done)), H', ⟨by have := HK1.out; have := HK2.out; have := HK3.out; have := HK4.out; omega⟩, ⟨by (with_reducible repeat (first | apply Kd.R_alloc | apply Kd.R_drewN | apply Kd.R_drew)); exact Kd.R_mono (Kd.R_far (p := ⟨gb371, 2, none⟩) (Kd.R_far (p := ⟨gb371, 1, none⟩) (Kd.R_far (p := ⟨gb371, 0, none⟩) (Kd.R_types HO_6.out BK371.out (by decide)) (fun _ hk => hk.2) (.string ((rd_T83 l0_3 x64_4).f0))) (fun _ hk => hk.2) (.string ((rd_T83 l0_3 x64_4).f1))) (fun _ hk => hk.2) (.int .i64 ((rd_T83 l0_3 x64_4).f2))) (fun _ hk => trivial)⟩, ⟨bf BK356.out⟩, ⟨bf BK357.out⟩, ⟨bl⟩⟩
     rw [if_neg c63] at H
     have c63b0 : (((rd_T83 l0_3 x64_4).f0).toList == ([] : List UInt8)) = false := beq_eq_false_iff_ne.mpr c63
     replace H := Option.bind_eq_some_iff.mp H
     obtain ⟨t374, A930, H⟩ := H
     replace H : (if t374 = true then (if ((rd_T83 l0_3 x64_4).f1).toList = ([] : List UInt8) then (maskref4_AskedFault.l3 k4 x6_1 l0_3 (l0_3.length : Int) (wrap64 (x64_4 + 1)) l1_0 l1_1 l1_2 l1_3 l1_4) else ((maskref4_among.f k4 ((rd_T83 l0_3 x64_4).f1) l1_1).bind fun t375 => (if t375 = true then (maskref4_AskedFault.l3 k4 x6_1 l0_3 (l0_3.length : Int) (wrap64 (x64_4 + 1)) l1_0 l1_1 l1_2 l1_3 l1_4) else ((maskref4_among.f k4 ((rd_T83 l0_3 x64_4).f1) x6_1).bind fun t376 => (if t376 = true then (maskref4_AskedFault.l3 k4 x6_1 l0_3 (l0_3.length : Int) (wrap64 (x64_4 + 1)) l1_0 l1_1 l1_2 l1_3 l1_4) else (some 7)))))) else ((maskref4_among.f k4 ((rd_T83 l0_3 x64_4).f0) x6_1).bind fun t377 => (if t377 = true then (if ((rd_T83 l0_3 x64_4).f1).toList = ([] : List UInt8) then (maskref4_AskedFault.l3 k4 x6_1 l0_3 (l0_3.length : Int) (wrap64 (x64_4 + 1)) l1_0 l1_1 l1_2 l1_3 l1_4) else ((maskref4_among.f k4 ((rd_T83 l0_3 x64_4).f1) l1_1).bind fun t378 => (if t378 = true then (maskref4_AskedFault.l3 k4 x6_1 l0_3 (l0_3.length : Int) (wrap64 (x64_4 + 1)) l1_0 l1_1 l1_2 l1_3 l1_4) else ((maskref4_among.f k4 ((rd_T83 l0_3 x64_4).f1) x6_1).bind fun t379 => (if t379 = true then (maskref4_AskedFault.l3 k4 x6_1 l0_3 (l0_3.length : Int) (wrap64 (x64_4 + 1)) l1_0 l1_1 l1_2 l1_3 l1_4) else (some 7)))))) else (some 7)))) = some r := H
     have A93 := Aside0.mk A930
     clear A930
     by_cases c94 : t374 = true
     · subst c94
       have H1 : (if ((rd_T83 l0_3 x64_4).f1).toList = ([] : List UInt8) then (maskref4_AskedFault.l3 k4 x6_1 l0_3 (l0_3.length : Int) (wrap64 (x64_4 + 1)) l1_0 l1_1 l1_2 l1_3 l1_4) else ((maskref4_among.f k4 ((rd_T83 l0_3 x64_4).f1) l1_1).bind fun t375 => (if t375 = true then (maskref4_AskedFault.l3 k4 x6_1 l0_3 (l0_3.length : Int) (wrap64 (x64_4 + 1)) l1_0 l1_1 l1_2 l1_3 l1_4) else ((maskref4_among.f k4 ((rd_T83 l0_3 x64_4).f1) x6_1).bind fun t376 => (if t376 = true then (maskref4_AskedFault.l3 k4 x6_1 l0_3 (l0_3.length : Int) (wrap64 (x64_4 + 1)) l1_0 l1_1 l1_2 l1_3 l1_4) else (some 7)))))) = some r := by rw [if_pos rfl] at H; exact H
       clear H
       have H := H1
       clear H1
       by_cases c95 : ((rd_T83 l0_3 x64_4).f1).toList = ([] : List UInt8)
       · rw [if_pos c95] at H
         have c95b0 : (((rd_T83 l0_3 x64_4).f1).toList == ([] : List UInt8)) = true := beq_iff_eq.mpr c95
         clear c95
         have H' := Aside0.mk H
         clear H
         have p370 : 0 ≤ (x64_4 : Int) := of_decide_eq_true (by first | (with_reducible assumption) | assumption)
         have q370 : x64_4 < (l0_3.length : Int) := of_decide_eq_true (by first | (with_reducible assumption) | assumption)
         obtain ⟨ad370, e370, hx370_0, hx370_1, hx370_2⟩ := at_T83 HR0_3.out x64_4 p370 q370
         cases e370
         replace hx370_0 := hc HB.out hx370_0
         replace hx370_1 := hc HB.out hx370_1
         replace hx370_2 := hc HB.out hx370_2
         replace p370 := eq_true p370
         replace q370 := eq_true q370
         go_wp2_with (first | ((with_reducible refine gate_dst (N := 14) rfl ?_); refine box_event ?hg (N := 14) ?hd (cs := #[.string (⟨#[]⟩ : ByteArray), .string (⟨#[]⟩ : ByteArray), .int .i64 0]) (t := 83) ?hr ?_; (case hd => rfl); (case hg => rfl); (case hr => first | (go_simp; done) | (go_simp; rfl)); intro gb371 hg w96 hbox hb; have n0_ := Aside0.mk (rb HO_6.out hb); have n1_ := Aside0.mk (bb BK356.out hb); have n2_ := Aside0.mk (bb BK357.out hb); have n3_ := Aside0.mk (below_step bl hb); have n4_ := Aside0.mk (hbox); have n5_ := Aside0.mk (ge (w := w) hg); have n6_ := Aside0.mk (ge (w := w) hg); have n7_ := Aside0.mk (nl hg (bk BK356.out)); have n8_ := Aside0.mk (ng hg (bk BK356.out)); have n9_ := Aside0.mk (nl hg (bk BK357.out)); have n10_ := Aside0.mk (ng hg (bk BK357.out)); clear HO_6; clear BK356; clear BK357; clear HB; have HO_6 := n0_; have BK356 := n1_; have BK357 := n2_; have HB := n3_; have BK371 := n4_; have GE371 := n6_; have NB356_371 := n7_; have NB371_356 := n8_; have NB357_371 := n9_; have NB371_357 := n10_; clear n0_ n1_ n2_ n3_ n4_ n5_ n6_ n7_ n8_ n9_ n10_; clear hb hbox hg; have hnc98 := NB357_371.out; obtain ⟨hcz99_0, hcz99_1, hcz99_2, hfz99_0, hfz99_1, hfz99_2⟩ := bz3 BK371.out; have hnb100 := NB357_356.out; have hnc100 := NB356_357.out; obtain ⟨hcz101_0, -, -, -, -, -, -, -, -, hfz101_4⟩ := bz5 BK357.out) | (go_at_call 30; (with_reducible refine (maskref4_among.calls k4 ((rd_T83 l0_3 x64_4).f0) _ _ l1_0 true _ ?side1 ?side2 A93.out).mono ?_); (case side1 => exact Kd.C_below HR1_0.out bl); (case side2 => exact HC1_0.out); rintro e w' ⟨rfl, ⟨nd, rfl⟩⟩))
         go_roundg k4
         case measure => have := HK1.out; have := HK2.out; have := HK3.out; have := HK4.out; omega
         case rel => exact ⟨(wrap64 (x64_4 + 1)), (by first | rfl | (simp; done) | (simp [*]; done)), H', ⟨by have := HK1.out; have := HK2.out; have := HK3.out; have := HK4.out; omega⟩, ⟨by (with_reducible repeat (first | apply Kd.R_alloc | apply Kd.R_drewN | apply Kd.R_drew)); exact Kd.R_mono (Kd.R_far (p := ⟨gb371, 2, none⟩) (Kd.R_far (p := ⟨gb371, 1, none⟩) (Kd.R_far (p := ⟨gb371, 0, none⟩) (Kd.R_types HO_6.out BK371.out (by decide)) (fun _ hk => hk.2) (.string ((rd_T83 l0_3 x64_4).f0))) (fun _ hk => hk.2) (.string ((rd_T83 l0_3 x64_4).f1))) (fun _ hk => hk.2) (.int .i64 ((rd_T83 l0_3 x64_4).f2))) (fun _ hk => trivial)⟩, ⟨bf BK356.out⟩, ⟨bf BK357.out⟩, ⟨bl⟩⟩
       rw [if_neg c95] at H
       have c95b0 : (((rd_T83 l0_3 x64_4).f1).toList == ([] : List UInt8)) = false := beq_eq_false_iff_ne.mpr c95
       replace H := Option.bind_eq_some_iff.mp H
       obtain ⟨t375, A1020, H⟩ := H
       replace H : (if t375 = true then (maskref4_AskedFault.l3 k4 x6_1 l0_3 (l0_3.length : Int) (wrap64 (x64_4 + 1)) l1_0 l1_1 l1_2 l1_3 l1_4) else ((maskref4_among.f k4 ((rd_T83 l0_3 x64_4).f1) x6_1).bind fun t376 => (if t376 = true then (maskref4_AskedFault.l3 k4 x6_1 l0_3 (l0_3.length : Int) (wrap64 (x64_4 + 1)) l1_0 l1_1 l1_2 l1_3 l1_4) else (some 7)))) = some r := H
       have A102 := Aside0.mk A1020
       clear A1020
       by_cases c103 : t375 = true
       · subst c103
         have H1 : (maskref4_AskedFault.l3 k4 x6_1 l0_3 (l0_3.length : Int) (wrap64 (x64_4 + 1)) l1_0 l1_1 l1_2 l1_3 l1_4) = some r := by rw [if_pos rfl] at H; exact H
         clear H
         have H := H1
         clear H1
         have H' := Aside0.mk H
         clear H
         have p370 : 0 ≤ (x64_4 : Int) := of_decide_eq_true (by first | (with_reducible assumption) | assumption)
         have q370 : x64_4 < (l0_3.length : Int) := of_decide_eq_true (by first | (with_reducible assumption) | assumption)
         obtain ⟨ad370, e370, hx370_0, hx370_1, hx370_2⟩ := at_T83 HR0_3.out x64_4 p370 q370
         cases e370
         replace hx370_0 := hc HB.out hx370_0
         replace hx370_1 := hc HB.out hx370_1
         replace hx370_2 := hc HB.out hx370_2
         replace p370 := eq_true p370
         replace q370 := eq_true q370
         go_wp2_with (first | ((with_reducible refine gate_dst (N := 14) rfl ?_); refine box_event ?hg (N := 14) ?hd (cs := #[.string (⟨#[]⟩ : ByteArray), .string (⟨#[]⟩ : ByteArray), .int .i64 0]) (t := 83) ?hr ?_; (case hd => rfl); (case hg => rfl); (case hr => first | (go_simp; done) | (go_simp; rfl)); intro gb371 hg w104 hbox hb; have n0_ := Aside0.mk (rb HO_6.out hb); have n1_ := Aside0.mk (bb BK356.out hb); have n2_ := Aside0.mk (bb BK357.out hb); have n3_ := Aside0.mk (below_step bl hb); have n4_ := Aside0.mk (hbox); have n5_ := Aside0.mk (ge (w := w) hg); have n6_ := Aside0.mk (ge (w := w) hg); have n7_ := Aside0.mk (nl hg (bk BK356.out)); have n8_ := Aside0.mk (ng hg (bk BK356.out)); have n9_ := Aside0.mk (nl hg (bk BK357.out)); have n10_ := Aside0.mk (ng hg (bk BK357.out)); clear HO_6; clear BK356; clear BK357; clear HB; have HO_6 := n0_; have BK356 := n1_; have BK357 := n2_; have HB := n3_; have BK371 := n4_; have GE371 := n6_; have NB356_371 := n7_; have NB371_356 := n8_; have NB357_371 := n9_; have NB371_357 := n10_; clear n0_ n1_ n2_ n3_ n4_ n5_ n6_ n7_ n8_ n9_ n10_; clear hb hbox hg; have hnc106 := NB357_371.out; obtain ⟨hcz107_0, hcz107_1, hcz107_2, hfz107_0, hfz107_1, hfz107_2⟩ := bz3 BK371.out; have hnb108 := NB357_356.out; have hnc108 := NB356_357.out; obtain ⟨hcz109_0, hcz109_1, -, -, -, -, -, -, -, hfz109_4⟩ := bz5 BK357.out) | (go_at_call 30; (with_reducible refine (maskref4_among.calls k4 ((rd_T83 l0_3 x64_4).f0) _ _ l1_0 true _ ?side1 ?side2 A93.out).mono ?_); (case side1 => exact Kd.C_below HR1_0.out bl); (case side2 => exact HC1_0.out); rintro e w' ⟨rfl, ⟨nd, rfl⟩⟩) | (go_at_call 30; (with_reducible refine (maskref4_among.calls k4 ((rd_T83 l0_3 x64_4).f1) _ _ l1_1 true _ ?side1 ?side2 A102.out).mono ?_); (case side1 => exact Kd.C_below HR1_1.out bl); (case side2 => exact HC1_1.out); rintro e w' ⟨rfl, ⟨nd, rfl⟩⟩))
         go_roundg k4
         case measure => have := HK1.out; have := HK2.out; have := HK3.out; have := HK4.out; omega
         case rel => exact ⟨(wrap64 (x64_4 + 1)), (by first | rfl | (simp; done) | (simp [*]; done)), H', ⟨by have := HK1.out; have := HK2.out; have := HK3.out; have := HK4.out; omega⟩, ⟨by (with_reducible repeat (first | apply Kd.R_alloc | apply Kd.R_drewN | apply Kd.R_drew)); exact Kd.R_mono (Kd.R_far (p := ⟨gb371, 2, none⟩) (Kd.R_far (p := ⟨gb371, 1, none⟩) (Kd.R_far (p := ⟨gb371, 0, none⟩) (Kd.R_types HO_6.out BK371.out (by decide)) (fun _ hk => hk.2) (.string ((rd_T83 l0_3 x64_4).f0))) (fun _ hk => hk.2) (.string ((rd_T83 l0_3 x64_4).f1))) (fun _ hk => hk.2) (.int .i64 ((rd_T83 l0_3 x64_4).f2))) (fun _ hk => trivial)⟩, ⟨bf BK356.out⟩, ⟨bf BK357.out⟩, ⟨bl⟩⟩
       replace c103 := Bool.eq_false_iff.mpr c103
       subst c103
       have H1 : ((maskref4_among.f k4 ((rd_T83 l0_3 x64_4).f1) x6_1).bind fun t376 => (if t376 = true then (maskref4_AskedFault.l3 k4 x6_1 l0_3 (l0_3.length : Int) (wrap64 (x64_4 + 1)) l1_0 l1_1 l1_2 l1_3 l1_4) else (some 7))) = some r := by rw [if_neg (show ¬ (false = true) by decide)] at H; exact H
       clear H
       have H := H1
       clear H1
       replace H := Option.bind_eq_some_iff.mp H
       obtain ⟨t376, A1100, H⟩ := H
       replace H : (if t376 = true then (maskref4_AskedFault.l3 k4 x6_1 l0_3 (l0_3.length : Int) (wrap64 (x64_4 + 1)) l1_0 l1_1 l1_2 l1_3 l1_4) else (some 7)) = some r := H
       have A110 := Aside0.mk A1100
       clear A1100
       by_cases c111 : t376 = true
       rotate_left
       · replace c111 := Bool.eq_false_iff.mpr c111
         subst c111
         have H1 : (some 7) = some r := by rw [if_neg (show ¬ (false = true) by decide)] at H; exact H
         clear H
         have H := H1
         clear H1
         obtain rfl := Option.some.inj H
         have p370 : 0 ≤ (x64_4 : Int) := of_decide_eq_true (by first | (with_reducible assumption) | assumption)
         have q370 : x64_4 < (l0_3.length : Int) := of_decide_eq_true (by first | (with_reducible assumption) | assumption)
         obtain ⟨ad370, e370, hx370_0, hx370_1, hx370_2⟩ := at_T83 HR0_3.out x64_4 p370 q370
         cases e370
         replace hx370_0 := hc HB.out hx370_0
         replace hx370_1 := hc HB.out hx370_1
         replace hx370_2 := hc HB.out hx370_2
         replace p370 := eq_true p370
         replace q370 := eq_true q370
         go_wp2_with (first | ((with_reducible refine gate_dst (N := 14) rfl ?_); refine box_event ?hg (N := 14) ?hd (cs := #[.string (⟨#[]⟩ : ByteArray), .string (⟨#[]⟩ : ByteArray), .int .i64 0]) (t := 83) ?hr ?_; (case hd => rfl); (case hg => rfl); (case hr => first | (go_simp; done) | (go_simp; rfl)); intro gb371 hg w119 hbox hb; have n0_ := Aside0.mk (rb HO_6.out hb); have n1_ := Aside0.mk (bb BK356.out hb); have n2_ := Aside0.mk (bb BK357.out hb); have n3_ := Aside0.mk (below_step bl hb); have n4_ := Aside0.mk (hbox); have n5_ := Aside0.mk (ge (w := w) hg); have n6_ := Aside0.mk (ge (w := w) hg); have n7_ := Aside0.mk (nl hg (bk BK356.out)); have n8_ := Aside0.mk (ng hg (bk BK356.out)); have n9_ := Aside0.mk (nl hg (bk BK357.out)); have n10_ := Aside0.mk (ng hg (bk BK357.out)); clear HO_6; clear BK356; clear BK357; clear HB; have HO_6 := n0_; have BK357 := n2_; have HB := n3_; have BK371 := n4_; have GE371 := n6_; have NB356_371 := n7_; have NB371_356 := n8_; have NB357_371 := n9_; have NB371_357 := n10_; clear n0_ n1_ n2_ n3_ n4_ n5_ n6_ n7_ n8_ n9_ n10_; clear hb hbox hg; have hnc121 := NB357_371.out; obtain ⟨hcz122_0, hcz122_1, hcz122_2, hfz122_0, hfz122_1, hfz122_2⟩ := bz3 BK371.out; have hnb123 := NB357_356.out; have hnc123 := NB356_357.out; obtain ⟨hcz124_0, hcz124_1, -, -, -, -, -, -, -, hfz124_4⟩ := bz5 BK357.out) | (go_at_call 30; (with_reducible refine (maskref4_among.calls k4 ((rd_T83 l0_3 x64_4).f0) _ _ l1_0 true _ ?side1 ?side2 A93.out).mono ?_); (case side1 => exact Kd.C_below HR1_0.out bl); (case side2 => exact HC1_0.out); rintro e w' ⟨rfl, ⟨nd, rfl⟩⟩) | (go_at_call 30; (with_reducible refine (maskref4_among.calls k4 ((rd_T83 l0_3 x64_4).f1) _ _ l1_1 false _ ?side1 ?side2 A102.out).mono ?_); (case side1 => exact Kd.C_below HR1_1.out bl); (case side2 => exact HC1_1.out); rintro e w' ⟨rfl, ⟨nd, rfl⟩⟩; obtain ⟨Ao125, co125, eo125⟩ := Kd.R_slice HO_6.out; subst eo125) | (go_at_call 30; (with_reducible refine (maskref4_among.calls k4 ((rd_T83 l0_3 x64_4).f1) _ _ x6_1 false _ ?side1 ?side2 A110.out).mono ?_); (case side1 => refine (Kd.R_reads' (e := 9) (base := w.heap.size) (ok := fun k_ => True) (n := x6_1.length) (c := co125) ?_).2.2; exact (by (with_reducible repeat (first | apply Kd.R_alloc | apply Kd.R_drewN | apply Kd.R_drew)); exact (Kd.R_mono (Kd.R_far (p := ⟨gb371, 2, none⟩) (Kd.R_far (p := ⟨gb371, 1, none⟩) (Kd.R_far (p := ⟨gb371, 0, none⟩) (Kd.R_types HO_6.out BK371.out (by decide)) (fun _ hk => hk.2) (.string ((rd_T83 l0_3 x64_4).f0))) (fun _ hk => hk.2) (.string ((rd_T83 l0_3 x64_4).f1))) (fun _ hk => hk.2) (.int .i64 ((rd_T83 l0_3 x64_4).f2))) (fun _ h_ => h_.1)))); (case side2 => exact (Kd.R_reads' HO_6.out).2.1); rintro e w' ⟨rfl, ⟨nd, rfl⟩⟩))
         go_ret
         exact ⟨by first | rfl | (simp [errW_none, errW_some] <;> rfl) | (simp [*, errW_none, errW_some] <;> rfl), bl⟩
       subst c111
       have H1 : (maskref4_AskedFault.l3 k4 x6_1 l0_3 (l0_3.length : Int) (wrap64 (x64_4 + 1)) l1_0 l1_1 l1_2 l1_3 l1_4) = some r := by rw [if_pos rfl] at H; exact H
       clear H
       have H := H1
       clear H1
       have H' := Aside0.mk H
       clear H
       have p370 : 0 ≤ (x64_4 : Int) := of_decide_eq_true (by first | (with_reducible assumption) | assumption)
       have q370 : x64_4 < (l0_3.length : Int) := of_decide_eq_true (by first | (with_reducible assumption) | assumption)
       obtain ⟨ad370, e370, hx370_0, hx370_1, hx370_2⟩ := at_T83 HR0_3.out x64_4 p370 q370
       cases e370
       replace hx370_0 := hc HB.out hx370_0
       replace hx370_1 := hc HB.out hx370_1
       replace hx370_2 := hc HB.out hx370_2
       replace p370 := eq_true p370
       replace q370 := eq_true q370
       go_wp2_with (first | ((with_reducible refine gate_dst (N := 14) rfl ?_); refine box_event ?hg (N := 14) ?hd (cs := #[.string (⟨#[]⟩ : ByteArray), .string (⟨#[]⟩ : ByteArray), .int .i64 0]) (t := 83) ?hr ?_; (case hd => rfl); (case hg => rfl); (case hr => first | (go_simp; done) | (go_simp; rfl)); intro gb371 hg w112 hbox hb; have n0_ := Aside0.mk (rb HO_6.out hb); have n1_ := Aside0.mk (bb BK356.out hb); have n2_ := Aside0.mk (bb BK357.out hb); have n3_ := Aside0.mk (below_step bl hb); have n4_ := Aside0.mk (hbox); have n5_ := Aside0.mk (ge (w := w) hg); have n6_ := Aside0.mk (ge (w := w) hg); have n7_ := Aside0.mk (nl hg (bk BK356.out)); have n8_ := Aside0.mk (ng hg (bk BK356.out)); have n9_ := Aside0.mk (nl hg (bk BK357.out)); have n10_ := Aside0.mk (ng hg (bk BK357.out)); clear HO_6; clear BK356; clear BK357; clear HB; have HO_6 := n0_; have BK356 := n1_; have BK357 := n2_; have HB := n3_; have BK371 := n4_; have GE371 := n6_; have NB356_371 := n7_; have NB371_356 := n8_; have NB357_371 := n9_; have NB371_357 := n10_; clear n0_ n1_ n2_ n3_ n4_ n5_ n6_ n7_ n8_ n9_ n10_; clear hb hbox hg; have hnc114 := NB357_371.out; obtain ⟨hcz115_0, hcz115_1, hcz115_2, hfz115_0, hfz115_1, hfz115_2⟩ := bz3 BK371.out; have hnb116 := NB357_356.out; have hnc116 := NB356_357.out; obtain ⟨hcz117_0, hcz117_1, -, -, -, -, -, -, -, hfz117_4⟩ := bz5 BK357.out) | (go_at_call 30; (with_reducible refine (maskref4_among.calls k4 ((rd_T83 l0_3 x64_4).f0) _ _ l1_0 true _ ?side1 ?side2 A93.out).mono ?_); (case side1 => exact Kd.C_below HR1_0.out bl); (case side2 => exact HC1_0.out); rintro e w' ⟨rfl, ⟨nd, rfl⟩⟩) | (go_at_call 30; (with_reducible refine (maskref4_among.calls k4 ((rd_T83 l0_3 x64_4).f1) _ _ l1_1 false _ ?side1 ?side2 A102.out).mono ?_); (case side1 => exact Kd.C_below HR1_1.out bl); (case side2 => exact HC1_1.out); rintro e w' ⟨rfl, ⟨nd, rfl⟩⟩; obtain ⟨Ao118, co118, eo118⟩ := Kd.R_slice HO_6.out; subst eo118) | (go_at_call 30; (with_reducible refine (maskref4_among.calls k4 ((rd_T83 l0_3 x64_4).f1) _ _ x6_1 true _ ?side1 ?side2 A110.out).mono ?_); (case side1 => refine (Kd.R_reads' (e := 9) (base := w.heap.size) (ok := fun k_ => True) (n := x6_1.length) (c := co118) ?_).2.2; exact (by (with_reducible repeat (first | apply Kd.R_alloc | apply Kd.R_drewN | apply Kd.R_drew)); exact (Kd.R_mono (Kd.R_far (p := ⟨gb371, 2, none⟩) (Kd.R_far (p := ⟨gb371, 1, none⟩) (Kd.R_far (p := ⟨gb371, 0, none⟩) (Kd.R_types HO_6.out BK371.out (by decide)) (fun _ hk => hk.2) (.string ((rd_T83 l0_3 x64_4).f0))) (fun _ hk => hk.2) (.string ((rd_T83 l0_3 x64_4).f1))) (fun _ hk => hk.2) (.int .i64 ((rd_T83 l0_3 x64_4).f2))) (fun _ h_ => h_.1)))); (case side2 => exact (Kd.R_reads' HO_6.out).2.1); rintro e w' ⟨rfl, ⟨nd, rfl⟩⟩))
       go_roundg k4
       case measure => have := HK1.out; have := HK2.out; have := HK3.out; have := HK4.out; omega
       case rel => exact ⟨(wrap64 (x64_4 + 1)), (by first | rfl | (simp; done) | (simp [*]; done)), H', ⟨by have := HK1.out; have := HK2.out; have := HK3.out; have := HK4.out; omega⟩, ⟨by (with_reducible repeat (first | apply Kd.R_alloc | apply Kd.R_drewN | apply Kd.R_drew)); exact Kd.R_mono (Kd.R_far (p := ⟨gb371, 2, none⟩) (Kd.R_far (p := ⟨gb371, 1, none⟩) (Kd.R_far (p := ⟨gb371, 0, none⟩) (Kd.R_types HO_6.out BK371.out (by decide)) (fun _ hk => hk.2) (.string ((rd_T83 l0_3 x64_4).f0))) (fun _ hk => hk.2) (.string ((rd_T83 l0_3 x64_4).f1))) (fun _ hk => hk.2) (.int .i64 ((rd_T83 l0_3 x64_4).f2))) (fun _ hk => trivial)⟩, ⟨bf BK356.out⟩, ⟨bf BK357.out⟩, ⟨bl⟩⟩
     replace c94 := Bool.eq_false_iff.mpr c94
     subst c94
     have H1 : ((maskref4_among.f k4 ((rd_T83 l0_3 x64_4).f0) x6_1).bind fun t377 => (if t377 = true then (if ((rd_T83 l0_3 x64_4).f1).toList = ([] : List UInt8) then (maskref4_AskedFault.l3 k4 x6_1 l0_3 (l0_3.length : Int) (wrap64 (x64_4 + 1)) l1_0 l1_1 l1_2 l1_3 l1_4) else ((maskref4_among.f k4 ((rd_T83 l0_3 x64_4).f1) l1_1).bind fun t378 => (if t378 = true then (maskref4_AskedFault.l3 k4 x6_1 l0_3 (l0_3.length : Int) (wrap64 (x64_4 + 1)) l1_0 l1_1 l1_2 l1_3 l1_4) else ((maskref4_among.f k4 ((rd_T83 l0_3 x64_4).f1) x6_1).bind fun t379 => (if t379 = true then (maskref4_AskedFault.l3 k4 x6_1 l0_3 (l0_3.length : Int) (wrap64 (x64_4 + 1)) l1_0 l1_1 l1_2 l1_3 l1_4) else (some 7)))))) else (some 7))) = some r := by rw [if_neg (show ¬ (false = true) by decide)] at H; exact H
     clear H
     have H := H1
     clear H1
     replace H := Option.bind_eq_some_iff.mp H
     obtain ⟨t377, A1260, H⟩ := H
     replace H : (if t377 = true then (if ((rd_T83 l0_3 x64_4).f1).toList = ([] : List UInt8) then (maskref4_AskedFault.l3 k4 x6_1 l0_3 (l0_3.length : Int) (wrap64 (x64_4 + 1)) l1_0 l1_1 l1_2 l1_3 l1_4) else ((maskref4_among.f k4 ((rd_T83 l0_3 x64_4).f1) l1_1).bind fun t378 => (if t378 = true then (maskref4_AskedFault.l3 k4 x6_1 l0_3 (l0_3.length : Int) (wrap64 (x64_4 + 1)) l1_0 l1_1 l1_2 l1_3 l1_4) else ((maskref4_among.f k4 ((rd_T83 l0_3 x64_4).f1) x6_1).bind fun t379 => (if t379 = true then (maskref4_AskedFault.l3 k4 x6_1 l0_3 (l0_3.length : Int) (wrap64 (x64_4 + 1)) l1_0 l1_1 l1_2 l1_3 l1_4) else (some 7)))))) else (some 7)) = some r := H
     have A126 := Aside0.mk A1260
     clear A1260
     by_cases c127 : t377 = true
     rotate_left
     · replace c127 := Bool.eq_false_iff.mpr c127
       subst c127
       have H1 : (some 7) = some r := by rw [if_neg (show ¬ (false = true) by decide)] at H; exact H
       clear H
       have H := H1
       clear H1
       obtain rfl := Option.some.inj H
       have p370 : 0 ≤ (x64_4 : Int) := of_decide_eq_true (by first | (with_reducible assumption) | assumption)
       have q370 : x64_4 < (l0_3.length : Int) := of_decide_eq_true (by first | (with_reducible assumption) | assumption)
       obtain ⟨ad370, e370, hx370_0, hx370_1, hx370_2⟩ := at_T83 HR0_3.out x64_4 p370 q370
       cases e370
       replace hx370_0 := hc HB.out hx370_0
       replace hx370_1 := hc HB.out hx370_1
       replace hx370_2 := hc HB.out hx370_2
       replace p370 := eq_true p370
       replace q370 := eq_true q370
       go_wp2_with (first | ((with_reducible refine gate_dst (N := 14) rfl ?_); refine box_event ?hg (N := 14) ?hd (cs := #[.string (⟨#[]⟩ : ByteArray), .string (⟨#[]⟩ : ByteArray), .int .i64 0]) (t := 83) ?hr ?_; (case hd => rfl); (case hg => rfl); (case hr => first | (go_simp; done) | (go_simp; rfl)); intro gb371 hg w161 hbox hb; have n0_ := Aside0.mk (rb HO_6.out hb); have n1_ := Aside0.mk (bb BK356.out hb); have n2_ := Aside0.mk (bb BK357.out hb); have n3_ := Aside0.mk (below_step bl hb); have n4_ := Aside0.mk (hbox); have n5_ := Aside0.mk (ge (w := w) hg); have n6_ := Aside0.mk (ge (w := w) hg); have n7_ := Aside0.mk (nl hg (bk BK356.out)); have n8_ := Aside0.mk (ng hg (bk BK356.out)); have n9_ := Aside0.mk (nl hg (bk BK357.out)); have n10_ := Aside0.mk (ng hg (bk BK357.out)); clear HO_6; clear BK356; clear BK357; clear HB; have HO_6 := n0_; have BK357 := n2_; have HB := n3_; have BK371 := n4_; have GE371 := n6_; have NB356_371 := n7_; have NB371_356 := n8_; have NB357_371 := n9_; have NB371_357 := n10_; clear n0_ n1_ n2_ n3_ n4_ n5_ n6_ n7_ n8_ n9_ n10_; clear hb hbox hg; have hnc163 := NB357_371.out; obtain ⟨hcz164_0, hcz164_1, hcz164_2, hfz164_0, hfz164_1, hfz164_2⟩ := bz3 BK371.out; have hnb165 := NB357_356.out; have hnc165 := NB356_357.out; obtain ⟨hcz166_0, -, -, -, -, -, -, -, -, hfz166_4⟩ := bz5 BK357.out) | (go_at_call 30; (with_reducible refine (maskref4_among.calls k4 ((rd_T83 l0_3 x64_4).f0) _ _ l1_0 false _ ?side1 ?side2 A93.out).mono ?_); (case side1 => exact Kd.C_below HR1_0.out bl); (case side2 => exact HC1_0.out); rintro e w' ⟨rfl, ⟨nd, rfl⟩⟩; obtain ⟨Ao167, co167, eo167⟩ := Kd.R_slice HO_6.out; subst eo167) | (go_at_call 30; (with_reducible refine (maskref4_among.calls k4 ((rd_T83 l0_3 x64_4).f0) _ _ x6_1 false _ ?side1 ?side2 A126.out).mono ?_); (case side1 => refine (Kd.R_reads' (e := 9) (base := w.heap.size) (ok := fun k_ => True) (n := x6_1.length) (c := co167) ?_).2.2; exact (by (with_reducible repeat (first | apply Kd.R_alloc | apply Kd.R_drewN | apply Kd.R_drew)); exact (Kd.R_mono (Kd.R_far (p := ⟨gb371, 2, none⟩) (Kd.R_far (p := ⟨gb371, 1, none⟩) (Kd.R_far (p := ⟨gb371, 0, none⟩) (Kd.R_types HO_6.out BK371.out (by decide)) (fun _ hk => hk.2) (.string ((rd_T83 l0_3 x64_4).f0))) (fun _ hk => hk.2) (.string ((rd_T83 l0_3 x64_4).f1))) (fun _ hk => hk.2) (.int .i64 ((rd_T83 l0_3 x64_4).f2))) (fun _ h_ => h_.1)))); (case side2 => exact (Kd.R_reads' HO_6.out).2.1); rintro e w' ⟨rfl, ⟨nd, rfl⟩⟩))
       go_ret
       exact ⟨by first | rfl | (simp [errW_none, errW_some] <;> rfl) | (simp [*, errW_none, errW_some] <;> rfl), bl⟩
     subst c127
     have H1 : (if ((rd_T83 l0_3 x64_4).f1).toList = ([] : List UInt8) then (maskref4_AskedFault.l3 k4 x6_1 l0_3 (l0_3.length : Int) (wrap64 (x64_4 + 1)) l1_0 l1_1 l1_2 l1_3 l1_4) else ((maskref4_among.f k4 ((rd_T83 l0_3 x64_4).f1) l1_1).bind fun t378 => (if t378 = true then (maskref4_AskedFault.l3 k4 x6_1 l0_3 (l0_3.length : Int) (wrap64 (x64_4 + 1)) l1_0 l1_1 l1_2 l1_3 l1_4) else ((maskref4_among.f k4 ((rd_T83 l0_3 x64_4).f1) x6_1).bind fun t379 => (if t379 = true then (maskref4_AskedFault.l3 k4 x6_1 l0_3 (l0_3.length : Int) (wrap64 (x64_4 + 1)) l1_0 l1_1 l1_2 l1_3 l1_4) else (some 7)))))) = some r := by rw [if_pos rfl] at H; exact H
     clear H
     have H := H1
     clear H1
     by_cases c128 : ((rd_T83 l0_3 x64_4).f1).toList = ([] : List UInt8)
     · rw [if_pos c128] at H
       have c128b0 : (((rd_T83 l0_3 x64_4).f1).toList == ([] : List UInt8)) = true := beq_iff_eq.mpr c128
       clear c128
       have H' := Aside0.mk H
       clear H
       have p370 : 0 ≤ (x64_4 : Int) := of_decide_eq_true (by first | (with_reducible assumption) | assumption)
       have q370 : x64_4 < (l0_3.length : Int) := of_decide_eq_true (by first | (with_reducible assumption) | assumption)
       obtain ⟨ad370, e370, hx370_0, hx370_1, hx370_2⟩ := at_T83 HR0_3.out x64_4 p370 q370
       cases e370
       replace hx370_0 := hc HB.out hx370_0
       replace hx370_1 := hc HB.out hx370_1
       replace hx370_2 := hc HB.out hx370_2
       replace p370 := eq_true p370
       replace q370 := eq_true q370
       go_wp2_with (first | ((with_reducible refine gate_dst (N := 14) rfl ?_); refine box_event ?hg (N := 14) ?hd (cs := #[.string (⟨#[]⟩ : ByteArray), .string (⟨#[]⟩ : ByteArray), .int .i64 0]) (t := 83) ?hr ?_; (case hd => rfl); (case hg => rfl); (case hr => first | (go_simp; done) | (go_simp; rfl)); intro gb371 hg w129 hbox hb; have n0_ := Aside0.mk (rb HO_6.out hb); have n1_ := Aside0.mk (bb BK356.out hb); have n2_ := Aside0.mk (bb BK357.out hb); have n3_ := Aside0.mk (below_step bl hb); have n4_ := Aside0.mk (hbox); have n5_ := Aside0.mk (ge (w := w) hg); have n6_ := Aside0.mk (ge (w := w) hg); have n7_ := Aside0.mk (nl hg (bk BK356.out)); have n8_ := Aside0.mk (ng hg (bk BK356.out)); have n9_ := Aside0.mk (nl hg (bk BK357.out)); have n10_ := Aside0.mk (ng hg (bk BK357.out)); clear HO_6; clear BK356; clear BK357; clear HB; have HO_6 := n0_; have BK356 := n1_; have BK357 := n2_; have HB := n3_; have BK371 := n4_; have GE371 := n6_; have NB356_371 := n7_; have NB371_356 := n8_; have NB357_371 := n9_; have NB371_357 := n10_; clear n0_ n1_ n2_ n3_ n4_ n5_ n6_ n7_ n8_ n9_ n10_; clear hb hbox hg; have hnc131 := NB357_371.out; obtain ⟨hcz132_0, hcz132_1, hcz132_2, hfz132_0, hfz132_1, hfz132_2⟩ := bz3 BK371.out; have hnb133 := NB357_356.out; have hnc133 := NB356_357.out; obtain ⟨hcz134_0, -, -, -, -, -, -, -, -, hfz134_4⟩ := bz5 BK357.out) | (go_at_call 30; (with_reducible refine (maskref4_among.calls k4 ((rd_T83 l0_3 x64_4).f0) _ _ l1_0 false _ ?side1 ?side2 A93.out).mono ?_); (case side1 => exact Kd.C_below HR1_0.out bl); (case side2 => exact HC1_0.out); rintro e w' ⟨rfl, ⟨nd, rfl⟩⟩; obtain ⟨Ao135, co135, eo135⟩ := Kd.R_slice HO_6.out; subst eo135) | (go_at_call 30; (with_reducible refine (maskref4_among.calls k4 ((rd_T83 l0_3 x64_4).f0) _ _ x6_1 true _ ?side1 ?side2 A126.out).mono ?_); (case side1 => refine (Kd.R_reads' (e := 9) (base := w.heap.size) (ok := fun k_ => True) (n := x6_1.length) (c := co135) ?_).2.2; exact (by (with_reducible repeat (first | apply Kd.R_alloc | apply Kd.R_drewN | apply Kd.R_drew)); exact (Kd.R_mono (Kd.R_far (p := ⟨gb371, 2, none⟩) (Kd.R_far (p := ⟨gb371, 1, none⟩) (Kd.R_far (p := ⟨gb371, 0, none⟩) (Kd.R_types HO_6.out BK371.out (by decide)) (fun _ hk => hk.2) (.string ((rd_T83 l0_3 x64_4).f0))) (fun _ hk => hk.2) (.string ((rd_T83 l0_3 x64_4).f1))) (fun _ hk => hk.2) (.int .i64 ((rd_T83 l0_3 x64_4).f2))) (fun _ h_ => h_.1)))); (case side2 => exact (Kd.R_reads' HO_6.out).2.1); rintro e w' ⟨rfl, ⟨nd, rfl⟩⟩))
       go_roundg k4
       case measure => have := HK1.out; have := HK2.out; have := HK3.out; have := HK4.out; omega
       case rel => exact ⟨(wrap64 (x64_4 + 1)), (by first | rfl | (simp; done) | (simp [*]; done)), H', ⟨by have := HK1.out; have := HK2.out; have := HK3.out; have := HK4.out; omega⟩, ⟨by (with_reducible repeat (first | apply Kd.R_alloc | apply Kd.R_drewN | apply Kd.R_drew)); exact Kd.R_mono (Kd.R_far (p := ⟨gb371, 2, none⟩) (Kd.R_far (p := ⟨gb371, 1, none⟩) (Kd.R_far (p := ⟨gb371, 0, none⟩) (Kd.R_types HO_6.out BK371.out (by decide)) (fun _ hk => hk.2) (.string ((rd_T83 l0_3 x64_4).f0))) (fun _ hk => hk.2) (.string ((rd_T83 l0_3 x64_4).f1))) (fun _ hk => hk.2) (.int .i64 ((rd_T83 l0_3 x64_4).f2))) (fun _ hk => trivial)⟩, ⟨bf BK356.out⟩, ⟨bf BK357.out⟩, ⟨bl⟩⟩
     rw [if_neg c128] at H
     have c128b0 : (((rd_T83 l0_3 x64_4).f1).toList == ([] : List UInt8)) = false := beq_eq_false_iff_ne.mpr c128
     replace H := Option.bind_eq_some_iff.mp H
     obtain ⟨t378, A1360, H⟩ := H
     replace H : (if t378 = true then (maskref4_AskedFault.l3 k4 x6_1 l0_3 (l0_3.length : Int) (wrap64 (x64_4 + 1)) l1_0 l1_1 l1_2 l1_3 l1_4) else ((maskref4_among.f k4 ((rd_T83 l0_3 x64_4).f1) x6_1).bind fun t379 => (if t379 = true then (maskref4_AskedFault.l3 k4 x6_1 l0_3 (l0_3.length : Int) (wrap64 (x64_4 + 1)) l1_0 l1_1 l1_2 l1_3 l1_4) else (some 7)))) = some r := H
     have A136 := Aside0.mk A1360
     clear A1360
     by_cases c137 : t378 = true
     · subst c137
       have H1 : (maskref4_AskedFault.l3 k4 x6_1 l0_3 (l0_3.length : Int) (wrap64 (x64_4 + 1)) l1_0 l1_1 l1_2 l1_3 l1_4) = some r := by rw [if_pos rfl] at H; exact H
       clear H
       have H := H1
       clear H1
       have H' := Aside0.mk H
       clear H
       have p370 : 0 ≤ (x64_4 : Int) := of_decide_eq_true (by first | (with_reducible assumption) | assumption)
       have q370 : x64_4 < (l0_3.length : Int) := of_decide_eq_true (by first | (with_reducible assumption) | assumption)
       obtain ⟨ad370, e370, hx370_0, hx370_1, hx370_2⟩ := at_T83 HR0_3.out x64_4 p370 q370
       cases e370
       replace hx370_0 := hc HB.out hx370_0
       replace hx370_1 := hc HB.out hx370_1
       replace hx370_2 := hc HB.out hx370_2
       replace p370 := eq_true p370
       replace q370 := eq_true q370
       go_wp2_with (first | ((with_reducible refine gate_dst (N := 14) rfl ?_); refine box_event ?hg (N := 14) ?hd (cs := #[.string (⟨#[]⟩ : ByteArray), .string (⟨#[]⟩ : ByteArray), .int .i64 0]) (t := 83) ?hr ?_; (case hd => rfl); (case hg => rfl); (case hr => first | (go_simp; done) | (go_simp; rfl)); intro gb371 hg w138 hbox hb; have n0_ := Aside0.mk (rb HO_6.out hb); have n1_ := Aside0.mk (bb BK356.out hb); have n2_ := Aside0.mk (bb BK357.out hb); have n3_ := Aside0.mk (below_step bl hb); have n4_ := Aside0.mk (hbox); have n5_ := Aside0.mk (ge (w := w) hg); have n6_ := Aside0.mk (ge (w := w) hg); have n7_ := Aside0.mk (nl hg (bk BK356.out)); have n8_ := Aside0.mk (ng hg (bk BK356.out)); have n9_ := Aside0.mk (nl hg (bk BK357.out)); have n10_ := Aside0.mk (ng hg (bk BK357.out)); clear HO_6; clear BK356; clear BK357; clear HB; have HO_6 := n0_; have BK356 := n1_; have BK357 := n2_; have HB := n3_; have BK371 := n4_; have GE371 := n6_; have NB356_371 := n7_; have NB371_356 := n8_; have NB357_371 := n9_; have NB371_357 := n10_; clear n0_ n1_ n2_ n3_ n4_ n5_ n6_ n7_ n8_ n9_ n10_; clear hb hbox hg; have hnc140 := NB357_371.out; obtain ⟨hcz141_0, hcz141_1, hcz141_2, hfz141_0, hfz141_1, hfz141_2⟩ := bz3 BK371.out; have hnb142 := NB357_356.out; have hnc142 := NB356_357.out; obtain ⟨hcz143_0, hcz143_1, -, -, -, -, -, -, -, hfz143_4⟩ := bz5 BK357.out) | (go_at_call 30; (with_reducible refine (maskref4_among.calls k4 ((rd_T83 l0_3 x64_4).f0) _ _ l1_0 false _ ?side1 ?side2 A93.out).mono ?_); (case side1 => exact Kd.C_below HR1_0.out bl); (case side2 => exact HC1_0.out); rintro e w' ⟨rfl, ⟨nd, rfl⟩⟩; obtain ⟨Ao144, co144, eo144⟩ := Kd.R_slice HO_6.out; subst eo144) | (go_at_call 30; (with_reducible refine (maskref4_among.calls k4 ((rd_T83 l0_3 x64_4).f0) _ _ x6_1 true _ ?side1 ?side2 A126.out).mono ?_); (case side1 => refine (Kd.R_reads' (e := 9) (base := w.heap.size) (ok := fun k_ => True) (n := x6_1.length) (c := co144) ?_).2.2; exact (by (with_reducible repeat (first | apply Kd.R_alloc | apply Kd.R_drewN | apply Kd.R_drew)); exact (Kd.R_mono (Kd.R_far (p := ⟨gb371, 2, none⟩) (Kd.R_far (p := ⟨gb371, 1, none⟩) (Kd.R_far (p := ⟨gb371, 0, none⟩) (Kd.R_types HO_6.out BK371.out (by decide)) (fun _ hk => hk.2) (.string ((rd_T83 l0_3 x64_4).f0))) (fun _ hk => hk.2) (.string ((rd_T83 l0_3 x64_4).f1))) (fun _ hk => hk.2) (.int .i64 ((rd_T83 l0_3 x64_4).f2))) (fun _ h_ => h_.1)))); (case side2 => exact (Kd.R_reads' HO_6.out).2.1); rintro e w' ⟨rfl, ⟨nd, rfl⟩⟩) | (go_at_call 30; (with_reducible refine (maskref4_among.calls k4 ((rd_T83 l0_3 x64_4).f1) _ _ l1_1 true _ ?side1 ?side2 A136.out).mono ?_); (case side1 => exact Kd.C_below HR1_1.out bl); (case side2 => exact HC1_1.out); rintro e w' ⟨rfl, ⟨nd, rfl⟩⟩))
       go_roundg k4
       case measure => have := HK1.out; have := HK2.out; have := HK3.out; have := HK4.out; omega
       case rel => exact ⟨(wrap64 (x64_4 + 1)), (by first | rfl | (simp; done) | (simp [*]; done)), H', ⟨by have := HK1.out; have := HK2.out; have := HK3.out; have := HK4.out; omega⟩, ⟨by (with_reducible repeat (first | apply Kd.R_alloc | apply Kd.R_drewN | apply Kd.R_drew)); exact Kd.R_mono (Kd.R_far (p := ⟨gb371, 2, none⟩) (Kd.R_far (p := ⟨gb371, 1, none⟩) (Kd.R_far (p := ⟨gb371, 0, none⟩) (Kd.R_types HO_6.out BK371.out (by decide)) (fun _ hk => hk.2) (.string ((rd_T83 l0_3 x64_4).f0))) (fun _ hk => hk.2) (.string ((rd_T83 l0_3 x64_4).f1))) (fun _ hk => hk.2) (.int .i64 ((rd_T83 l0_3 x64_4).f2))) (fun _ hk => trivial)⟩, ⟨bf BK356.out⟩, ⟨bf BK357.out⟩, ⟨bl⟩⟩
     replace c137 := Bool.eq_false_iff.mpr c137
     subst c137
     have H1 : ((maskref4_among.f k4 ((rd_T83 l0_3 x64_4).f1) x6_1).bind fun t379 => (if t379 = true then (maskref4_AskedFault.l3 k4 x6_1 l0_3 (l0_3.length : Int) (wrap64 (x64_4 + 1)) l1_0 l1_1 l1_2 l1_3 l1_4) else (some 7))) = some r := by rw [if_neg (show ¬ (false = true) by decide)] at H; exact H
     clear H
     have H := H1
     clear H1
     replace H := Option.bind_eq_some_iff.mp H
     obtain ⟨t379, A1450, H⟩ := H
     replace H : (if t379 = true then (maskref4_AskedFault.l3 k4 x6_1 l0_3 (l0_3.length : Int) (wrap64 (x64_4 + 1)) l1_0 l1_1 l1_2 l1_3 l1_4) else (some 7)) = some r := H
     have A145 := Aside0.mk A1450
     clear A1450
     by_cases c146 : t379 = true
     rotate_left
     · replace c146 := Bool.eq_false_iff.mpr c146
       subst c146
       have H1 : (some 7) = some r := by rw [if_neg (show ¬ (false = true) by decide)] at H; exact H
       clear H
       have H := H1
       clear H1
       obtain rfl := Option.some.inj H
       have p370 : 0 ≤ (x64_4 : Int) := of_decide_eq_true (by first | (with_reducible assumption) | assumption)
       have q370 : x64_4 < (l0_3.length : Int) := of_decide_eq_true (by first | (with_reducible assumption) | assumption)
       obtain ⟨ad370, e370, hx370_0, hx370_1, hx370_2⟩ := at_T83 HR0_3.out x64_4 p370 q370
       cases e370
       replace hx370_0 := hc HB.out hx370_0
       replace hx370_1 := hc HB.out hx370_1
       replace hx370_2 := hc HB.out hx370_2
       replace p370 := eq_true p370
       replace q370 := eq_true q370
       go_wp2_with (first | ((with_reducible refine gate_dst (N := 14) rfl ?_); refine box_event ?hg (N := 14) ?hd (cs := #[.string (⟨#[]⟩ : ByteArray), .string (⟨#[]⟩ : ByteArray), .int .i64 0]) (t := 83) ?hr ?_; (case hd => rfl); (case hg => rfl); (case hr => first | (go_simp; done) | (go_simp; rfl)); intro gb371 hg w154 hbox hb; have n0_ := Aside0.mk (rb HO_6.out hb); have n1_ := Aside0.mk (bb BK356.out hb); have n2_ := Aside0.mk (bb BK357.out hb); have n3_ := Aside0.mk (below_step bl hb); have n4_ := Aside0.mk (hbox); have n5_ := Aside0.mk (ge (w := w) hg); have n6_ := Aside0.mk (ge (w := w) hg); have n7_ := Aside0.mk (nl hg (bk BK356.out)); have n8_ := Aside0.mk (ng hg (bk BK356.out)); have n9_ := Aside0.mk (nl hg (bk BK357.out)); have n10_ := Aside0.mk (ng hg (bk BK357.out)); clear HO_6; clear BK356; clear BK357; clear HB; have HO_6 := n0_; have BK357 := n2_; have HB := n3_; have BK371 := n4_; have GE371 := n6_; have NB356_371 := n7_; have NB371_356 := n8_; have NB357_371 := n9_; have NB371_357 := n10_; clear n0_ n1_ n2_ n3_ n4_ n5_ n6_ n7_ n8_ n9_ n10_; clear hb hbox hg; have hnc156 := NB357_371.out; obtain ⟨hcz157_0, hcz157_1, hcz157_2, hfz157_0, hfz157_1, hfz157_2⟩ := bz3 BK371.out; have hnb158 := NB357_356.out; have hnc158 := NB356_357.out; obtain ⟨hcz159_0, hcz159_1, -, -, -, -, -, -, -, hfz159_4⟩ := bz5 BK357.out) | (go_at_call 30; (with_reducible refine (maskref4_among.calls k4 ((rd_T83 l0_3 x64_4).f0) _ _ l1_0 false _ ?side1 ?side2 A93.out).mono ?_); (case side1 => exact Kd.C_below HR1_0.out bl); (case side2 => exact HC1_0.out); rintro e w' ⟨rfl, ⟨nd, rfl⟩⟩; obtain ⟨Ao160, co160, eo160⟩ := Kd.R_slice HO_6.out; subst eo160) | (go_at_call 30; (with_reducible refine (maskref4_among.calls k4 ((rd_T83 l0_3 x64_4).f0) _ _ x6_1 true _ ?side1 ?side2 A126.out).mono ?_); (case side1 => refine (Kd.R_reads' (e := 9) (base := w.heap.size) (ok := fun k_ => True) (n := x6_1.length) (c := co160) ?_).2.2; exact (by (with_reducible repeat (first | apply Kd.R_alloc | apply Kd.R_drewN | apply Kd.R_drew)); exact (Kd.R_mono (Kd.R_far (p := ⟨gb371, 2, none⟩) (Kd.R_far (p := ⟨gb371, 1, none⟩) (Kd.R_far (p := ⟨gb371, 0, none⟩) (Kd.R_types HO_6.out BK371.out (by decide)) (fun _ hk => hk.2) (.string ((rd_T83 l0_3 x64_4).f0))) (fun _ hk => hk.2) (.string ((rd_T83 l0_3 x64_4).f1))) (fun _ hk => hk.2) (.int .i64 ((rd_T83 l0_3 x64_4).f2))) (fun _ h_ => h_.1)))); (case side2 => exact (Kd.R_reads' HO_6.out).2.1); rintro e w' ⟨rfl, ⟨nd, rfl⟩⟩) | (go_at_call 30; (with_reducible refine (maskref4_among.calls k4 ((rd_T83 l0_3 x64_4).f1) _ _ l1_1 false _ ?side1 ?side2 A136.out).mono ?_); (case side1 => exact Kd.C_below HR1_1.out bl); (case side2 => exact HC1_1.out); rintro e w' ⟨rfl, ⟨nd, rfl⟩⟩) | (go_at_call 30; (with_reducible refine (maskref4_among.calls k4 ((rd_T83 l0_3 x64_4).f1) _ _ x6_1 false _ ?side1 ?side2 A145.out).mono ?_); (case side1 => refine (Kd.R_reads' (e := 9) (base := w.heap.size) (ok := fun k_ => True) (n := x6_1.length) (c := co160) ?_).2.2; exact (by (with_reducible repeat (first | apply Kd.R_alloc | apply Kd.R_drewN | apply Kd.R_drew)); exact (Kd.R_mono (Kd.R_far (p := ⟨gb371, 2, none⟩) (Kd.R_far (p := ⟨gb371, 1, none⟩) (Kd.R_far (p := ⟨gb371, 0, none⟩) (Kd.R_types HO_6.out BK371.out (by decide)) (fun _ hk => hk.2) (.string ((rd_T83 l0_3 x64_4).f0))) (fun _ hk => hk.2) (.string ((rd_T83 l0_3 x64_4).f1))) (fun _ hk => hk.2) (.int .i64 ((rd_T83 l0_3 x64_4).f2))) (fun _ h_ => h_.1)))); (case side2 => exact (Kd.R_reads' HO_6.out).2.1); rintro e w' ⟨rfl, ⟨nd, rfl⟩⟩))
       go_ret
       exact ⟨by first | rfl | (simp [errW_none, errW_some] <;> rfl) | (simp [*, errW_none, errW_some] <;> rfl), bl⟩
     subst c146
     have H1 : (maskref4_AskedFault.l3 k4 x6_1 l0_3 (l0_3.length : Int) (wrap64 (x64_4 + 1)) l1_0 l1_1 l1_2 l1_3 l1_4) = some r := by rw [if_pos rfl] at H; exact H
     clear H
     have H := H1
     clear H1
     have H' := Aside0.mk H
     clear H
     have p370 : 0 ≤ (x64_4 : Int) := of_decide_eq_true (by first | (with_reducible assumption) | assumption)
     have q370 : x64_4 < (l0_3.length : Int) := of_decide_eq_true (by first | (with_reducible assumption) | assumption)
     obtain ⟨ad370, e370, hx370_0, hx370_1, hx370_2⟩ := at_T83 HR0_3.out x64_4 p370 q370
     cases e370
     replace hx370_0 := hc HB.out hx370_0
     replace hx370_1 := hc HB.out hx370_1
     replace hx370_2 := hc HB.out hx370_2
     replace p370 := eq_true p370
     replace q370 := eq_true q370
     go_wp2_with (first | ((with_reducible refine gate_dst (N := 14) rfl ?_); refine box_event ?hg (N := 14) ?hd (cs := #[.string (⟨#[]⟩ : ByteArray), .string (⟨#[]⟩ : ByteArray), .int .i64 0]) (t := 83) ?hr ?_; (case hd => rfl); (case hg => rfl); (case hr => first | (go_simp; done) | (go_simp; rfl)); intro gb371 hg w147 hbox hb; have n0_ := Aside0.mk (rb HO_6.out hb); have n1_ := Aside0.mk (bb BK356.out hb); have n2_ := Aside0.mk (bb BK357.out hb); have n3_ := Aside0.mk (below_step bl hb); have n4_ := Aside0.mk (hbox); have n5_ := Aside0.mk (ge (w := w) hg); have n6_ := Aside0.mk (ge (w := w) hg); have n7_ := Aside0.mk (nl hg (bk BK356.out)); have n8_ := Aside0.mk (ng hg (bk BK356.out)); have n9_ := Aside0.mk (nl hg (bk BK357.out)); have n10_ := Aside0.mk (ng hg (bk BK357.out)); clear HO_6; clear BK356; clear BK357; clear HB; have HO_6 := n0_; have BK356 := n1_; have BK357 := n2_; have HB := n3_; have BK371 := n4_; have GE371 := n6_; have NB356_371 := n7_; have NB371_356 := n8_; have NB357_371 := n9_; have NB371_357 := n10_; clear n0_ n1_ n2_ n3_ n4_ n5_ n6_ n7_ n8_ n9_ n10_; clear hb hbox hg; have hnc149 := NB357_371.out; obtain ⟨hcz150_0, hcz150_1, hcz150_2, hfz150_0, hfz150_1, hfz150_2⟩ := bz3 BK371.out; have hnb151 := NB357_356.out; have hnc151 := NB356_357.out; obtain ⟨hcz152_0, hcz152_1, -, -, -, -, -, -, -, hfz152_4⟩ := bz5 BK357.out) | (go_at_call 30; (with_reducible refine (maskref4_among.calls k4 ((rd_T83 l0_3 x64_4).f0) _ _ l1_0 false _ ?side1 ?side2 A93.out).mono ?_); (case side1 => exact Kd.C_below HR1_0.out bl); (case side2 => exact HC1_0.out); rintro e w' ⟨rfl, ⟨nd, rfl⟩⟩; obtain ⟨Ao153, co153, eo153⟩ := Kd.R_slice HO_6.out; subst eo153) | (go_at_call 30; (with_reducible refine (maskref4_among.calls k4 ((rd_T83 l0_3 x64_4).f0) _ _ x6_1 true _ ?side1 ?side2 A126.out).mono ?_); (case side1 => refine (Kd.R_reads' (e := 9) (base := w.heap.size) (ok := fun k_ => True) (n := x6_1.length) (c := co153) ?_).2.2; exact (by (with_reducible repeat (first | apply Kd.R_alloc | apply Kd.R_drewN | apply Kd.R_drew)); exact (Kd.R_mono (Kd.R_far (p := ⟨gb371, 2, none⟩) (Kd.R_far (p := ⟨gb371, 1, none⟩) (Kd.R_far (p := ⟨gb371, 0, none⟩) (Kd.R_types HO_6.out BK371.out (by decide)) (fun _ hk => hk.2) (.string ((rd_T83 l0_3 x64_4).f0))) (fun _ hk => hk.2) (.string ((rd_T83 l0_3 x64_4).f1))) (fun _ hk => hk.2) (.int .i64 ((rd_T83 l0_3 x64_4).f2))) (fun _ h_ => h_.1)))); (case side2 => exact (Kd.R_reads' HO_6.out).2.1); rintro e w' ⟨rfl, ⟨nd, rfl⟩⟩) | (go_at_call 30; (with_reducible refine (maskref4_among.calls k4 ((rd_T83 l0_3 x64_4).f1) _ _ l1_1 false _ ?side1 ?side2 A136.out).mono ?_); (case side1 => exact Kd.C_below HR1_1.out bl); (case side2 => exact HC1_1.out); rintro e w' ⟨rfl, ⟨nd, rfl⟩⟩) | (go_at_call 30; (with_reducible refine (maskref4_among.calls k4 ((rd_T83 l0_3 x64_4).f1) _ _ x6_1 true _ ?side1 ?side2 A145.out).mono ?_); (case side1 => refine (Kd.R_reads' (e := 9) (base := w.heap.size) (ok := fun k_ => True) (n := x6_1.length) (c := co153) ?_).2.2; exact (by (with_reducible repeat (first | apply Kd.R_alloc | apply Kd.R_drewN | apply Kd.R_drew)); exact (Kd.R_mono (Kd.R_far (p := ⟨gb371, 2, none⟩) (Kd.R_far (p := ⟨gb371, 1, none⟩) (Kd.R_far (p := ⟨gb371, 0, none⟩) (Kd.R_types HO_6.out BK371.out (by decide)) (fun _ hk => hk.2) (.string ((rd_T83 l0_3 x64_4).f0))) (fun _ hk => hk.2) (.string ((rd_T83 l0_3 x64_4).f1))) (fun _ hk => hk.2) (.int .i64 ((rd_T83 l0_3 x64_4).f2))) (fun _ h_ => h_.1)))); (case side2 => exact (Kd.R_reads' HO_6.out).2.1); rintro e w' ⟨rfl, ⟨nd, rfl⟩⟩))
     go_roundg k4
     case measure => have := HK1.out; have := HK2.out; have := HK3.out; have := HK4.out; omega
     case rel => exact ⟨(wrap64 (x64_4 + 1)), (by first | rfl | (simp; done) | (simp [*]; done)), H', ⟨by have := HK1.out; have := HK2.out; have := HK3.out; have := HK4.out; omega⟩, ⟨by (with_reducible repeat (first | apply Kd.R_alloc | apply Kd.R_drewN | apply Kd.R_drew)); exact Kd.R_mono (Kd.R_far (p := ⟨gb371, 2, none⟩) (Kd.R_far (p := ⟨gb371, 1, none⟩) (Kd.R_far (p := ⟨gb371, 0, none⟩) (Kd.R_types HO_6.out BK371.out (by decide)) (fun _ hk => hk.2) (.string ((rd_T83 l0_3 x64_4).f0))) (fun _ hk => hk.2) (.string ((rd_T83 l0_3 x64_4).f1))) (fun _ hk => hk.2) (.int .i64 ((rd_T83 l0_3 x64_4).f2))) (fun _ hk => trivial)⟩, ⟨bf BK356.out⟩, ⟨bf BK357.out⟩, ⟨bl⟩⟩

end Go.Proofs.YtlegjcagkmjfjaaDoor.PT
