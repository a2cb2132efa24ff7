-- PRINTED by print.py (a twelfth state) out of the translation. Not trusted: Lean checks it.
import Derived.Test.YtlbljdjbcbgnlaaCmp
import Derived.Test.YtlbljdjbcbgnlaaPXx0
import Derived.Test.YtlbljdjbcbgnlaaPXx4
import Derived.Test.YtlbljdjbcbgnlaaPXx12
import Derived.Test.YtlbljdjbcbgnlaaPXx13
import Derived.Test.YtlbljdjbcbgnlaaPXx40
import Derived.Test.YtlbljdjbcbgnlaaPXx38
namespace Go.Proofs.Ytlbljdjbcbgnlaa.PX
open Go.RowKit Go.Proofs.YtlbljdjbcbgnlaaW.PrintWords Go.Proofs.YtlbljdjbcbgnlaaW.PrintLast Go.Proofs.YtlbljdjbcbgnlaaW.PrintMore
attribute [local go_sem] max2_int min2_int max_two min_two max_three min_three max_four min_four   -- for this text's walks alone
set_option linter.unusedVariables false
set_option linter.unusedSimpArgs false

/-! ### stringslite_HasPrefix: function 89 -/
def stringslite_HasPrefix.f (a0 : ByteArray) (a1 : ByteArray) : Option (Bool) := if (a0.size : Int) ≥ (a1.size : Int) then (if 0 ≤ (a1.size : Int) then (if (a1.size : Int) ≤ (a0.size : Int) then (some ((a0.extract 0 ((a1.size : Int) : Int).toNat).toList == a1.toList)) else (none)) else (none)) else (some false)
set_option maxHeartbeats 8000000 in
set_option maxRecDepth 100000 in
theorem stringslite_HasPrefix.calls (a0 : ByteArray) (a1 : ByteArray) (r : Bool) (w : World) (h : stringslite_HasPrefix.f a0 a1 = some r) :
 Calls Try.prog 89 #[.string a0, .string a1] w fun e w' => e = .returned (.bool r) ∧ Drawn0 w w' := by
 have H : (if (a0.size : Int) ≥ (a1.size : Int) then (if 0 ≤ (a1.size : Int) then (if (a1.size : Int) ≤ (a0.size : Int) then (some ((a0.extract 0 ((a1.size : Int) : Int).toNat).toList == a1.toList)) else (none)) else (none)) else (some false)) = some r := h
 clear h
 by_cases c3 : (a0.size : Int) ≥ (a1.size : Int)
 · rw [if_pos c3] at H
   have c3b0 : decide ((a1.size : Int) ≤ (a0.size : Int)) = true := decide_eq_true c3
   have c3b1 : decide (a1.size ≤ a0.size) = true := decide_eq_true (Int.ofNat_le.mp c3)
   clear c3
   by_cases c4 : 0 ≤ (a1.size : Int)
   · rw [if_pos c4] at H
     have c4b0 := eq_true c4
     have c4b1 : decide (0 ≤ (a1.size : Int)) = true := decide_eq_true c4
     clear c4
     by_cases c5 : (a1.size : Int) ≤ (a0.size : Int)
     · rw [if_pos c5] at H
       have c5b0 := eq_true c5
       clear c5
       obtain rfl := Option.some.inj H
       go_enter Try.func89, Try.ntmps89
       go_wp2
       go_ret
       exact ⟨by first | rfl | (simp; done) | (simp [*]; done), by repeat (first | exact Drawn0.refl _ | apply Drawn0.step)⟩
     · rw [if_neg c5] at H
       exact absurd H (by simp)
   · rw [if_neg c4] at H
     exact absurd H (by simp)
 · rw [if_neg c3] at H
   have c3b1 : decide (a1.size ≤ a0.size) = false := decide_eq_false (fun h => c3 (Int.ofNat_le.mpr h))
   clear c3
   obtain rfl := Option.some.inj H
   go_enter Try.func89, Try.ntmps89
   go_wp2
   go_ret
   exact ⟨by first | rfl | (simp; done) | (simp [*]; done), by repeat (first | exact Drawn0.refl _ | apply Drawn0.step)⟩

end Go.Proofs.Ytlbljdjbcbgnlaa.PX
namespace Go.Proofs.Ytlbljdjbcbgnlaa.PX
open Go.RowKit Go.Proofs.YtlbljdjbcbgnlaaW.PrintWords Go.Proofs.YtlbljdjbcbgnlaaW.PrintLast Go.Proofs.YtlbljdjbcbgnlaaW.PrintMore
attribute [local go_sem] max2_int min2_int max_two min_two max_three min_three max_four min_four   -- for this text's walks alone
set_option linter.unusedVariables false
set_option linter.unusedSimpArgs false

/-! ### stringslite_TrimPrefix: function 86 -/
def stringslite_TrimPrefix.f (a0 : ByteArray) (a1 : ByteArray) : Option (ByteArray) := (stringslite_HasPrefix.f a0 a1).bind fun t340 => (if t340 = true then (if 0 ≤ (a1.size : Int) then (if (a1.size : Int) ≤ (a0.size : Int) then (some (a0.extract ((a1.size : Int) : Int).toNat a0.size)) else (none)) else (none)) else (some a0))
set_option maxHeartbeats 8000000 in
set_option maxRecDepth 100000 in
theorem stringslite_TrimPrefix.calls (a0 : ByteArray) (a1 : ByteArray) (r : ByteArray) (w : World) (h : stringslite_TrimPrefix.f a0 a1 = some r) :
 Calls Try.prog 86 #[.string a0, .string a1] w fun e w' => e = .returned (.string r) ∧ Drawn0 w w' := by
 have H : ((stringslite_HasPrefix.f a0 a1).bind fun t340 => (if t340 = true then (if 0 ≤ (a1.size : Int) then (if (a1.size : Int) ≤ (a0.size : Int) then (some (a0.extract ((a1.size : Int) : Int).toNat a0.size)) else (none)) else (none)) else (some a0))) = some r := h
 clear h
 replace H := Option.bind_eq_some_iff.mp H
 obtain ⟨t340, A30, H⟩ := H
 replace H : (if t340 = true then (if 0 ≤ (a1.size : Int) then (if (a1.size : Int) ≤ (a0.size : Int) then (some (a0.extract ((a1.size : Int) : Int).toNat a0.size)) else (none)) else (none)) else (some a0)) = some r := H
 have A3 := Aside0.mk A30
 clear A30
 by_cases c4 : t340 = true
 · subst c4
   have H1 : (if 0 ≤ (a1.size : Int) then (if (a1.size : Int) ≤ (a0.size : Int) then (some (a0.extract ((a1.size : Int) : Int).toNat a0.size)) else (none)) else (none)) = some r := by rw [if_pos rfl] at H; exact H
   clear H
   have H := H1
   clear H1
   by_cases c5 : 0 ≤ (a1.size : Int)
   · rw [if_pos c5] at H
     have c5b0 := eq_true c5
     have c5b1 : decide (0 ≤ (a1.size : Int)) = true := decide_eq_true c5
     clear c5
     by_cases c6 : (a1.size : Int) ≤ (a0.size : Int)
     · rw [if_pos c6] at H
       have c6b0 := eq_true c6
       clear c6
       obtain rfl := Option.some.inj H
       go_enter Try.func86, Try.ntmps86
       go_wp2_with ((with_reducible refine gate_callee (f := 89) rfl ?_); refine goesL_ (some 7) rfl rfl Try.func89 (by kernel_rfl) rfl #[.string a0, .string a1] rfl (by (try simp only [List.map_toArray, List.map_cons, List.map_nil]); first | done | rfl | (simp only [List.length_drop, List.length_take]; rfl)) ?_; (with_reducible refine (stringslite_HasPrefix.calls a0 a1 true _ A3.out).mono ?_); rintro e w' ⟨rfl, ⟨nd, rfl⟩⟩; refine ⟨_, rfl, ?_⟩)
       go_ret
       exact ⟨by first | rfl | (simp; done) | (simp [*]; done), by repeat (first | exact Drawn0.refl _ | apply Drawn0.step)⟩
     · rw [if_neg c6] at H
       exact absurd H (by simp)
   · rw [if_neg c5] at H
     exact absurd H (by simp)
 · replace c4 := Bool.eq_false_iff.mpr c4
   subst c4
   have H1 : (some a0) = some r := by rw [if_neg (show ¬ (false = true) by decide)] at H; exact H
   clear H
   have H := H1
   clear H1
   obtain rfl := Option.some.inj H
   go_enter Try.func86, Try.ntmps86
   go_wp2_with ((with_reducible refine gate_callee (f := 89) rfl ?_); refine goesL_ (some 7) rfl rfl Try.func89 (by kernel_rfl) rfl #[.string a0, .string a1] rfl (by (try simp only [List.map_toArray, List.map_cons, List.map_nil]); first | done | rfl | (simp only [List.length_drop, List.length_take]; rfl)) ?_; (with_reducible refine (stringslite_HasPrefix.calls a0 a1 false _ A3.out).mono ?_); rintro e w' ⟨rfl, ⟨nd, rfl⟩⟩; refine ⟨_, rfl, ?_⟩)
   go_ret
   exact ⟨by first | rfl | (simp; done) | (simp [*]; done), by repeat (first | exact Drawn0.refl _ | apply Drawn0.step)⟩

end Go.Proofs.Ytlbljdjbcbgnlaa.PX
namespace Go.Proofs.Ytlbljdjbcbgnlaa.PX
open Go.RowKit Go.Proofs.YtlbljdjbcbgnlaaW.PrintWords Go.Proofs.YtlbljdjbcbgnlaaW.PrintLast Go.Proofs.YtlbljdjbcbgnlaaW.PrintMore
attribute [local go_sem] max2_int min2_int max_two min_two max_three min_three max_four min_four   -- for this text's walks alone
set_option linter.unusedVariables false
set_option linter.unusedSimpArgs false

/-! ### strings_TrimPrefix: function 78 -/
def strings_TrimPrefix.f (a0 : ByteArray) (a1 : ByteArray) : Option (ByteArray) := (stringslite_TrimPrefix.f a0 a1).bind fun t341 => (some t341)
set_option maxHeartbeats 8000000 in
set_option maxRecDepth 100000 in
theorem strings_TrimPrefix.calls (a0 : ByteArray) (a1 : ByteArray) (r : ByteArray) (w : World) (h : strings_TrimPrefix.f a0 a1 = some r) :
 Calls Try.prog 78 #[.string a0, .string a1] w fun e w' => e = .returned (.string r) ∧ Drawn0 w w' := by
 have H : ((stringslite_TrimPrefix.f a0 a1).bind fun t341 => (some t341)) = some r := h
 clear h
 replace H := Option.bind_eq_some_iff.mp H
 obtain ⟨t341, A30, H⟩ := H
 replace H : (some t341) = some r := H
 have A3 := Aside0.mk A30
 clear A30
 obtain rfl := Option.some.inj H
 go_enter Try.func78, Try.ntmps78
 go_wp2_with ((with_reducible refine gate_callee (f := 86) rfl ?_); refine goesL_ (some 7) rfl rfl Try.func86 (by kernel_rfl) rfl #[.string a0, .string a1] rfl (by (try simp only [List.map_toArray, List.map_cons, List.map_nil]); first | done | rfl | (simp only [List.length_drop, List.length_take]; rfl)) ?_; (with_reducible refine (stringslite_TrimPrefix.calls a0 a1 t341 _ A3.out).mono ?_); rintro e w' ⟨rfl, ⟨nd, rfl⟩⟩; refine ⟨_, rfl, ?_⟩)
 go_ret
 exact ⟨by first | rfl | (simp; done) | (simp [*]; done), by repeat (first | exact Drawn0.refl _ | apply Drawn0.step)⟩

end Go.Proofs.Ytlbljdjbcbgnlaa.PX
namespace Go.Proofs.Ytlbljdjbcbgnlaa.PX
open Go.RowKit Go.Proofs.YtlbljdjbcbgnlaaW.PrintWords Go.Proofs.YtlbljdjbcbgnlaaW.PrintLast Go.Proofs.YtlbljdjbcbgnlaaW.PrintMore
attribute [local go_sem] max2_int min2_int max_two min_two max_three min_three max_four min_four   -- for this text's walks alone
set_option linter.unusedVariables false
set_option linter.unusedSimpArgs false

/-! ### exact_Read: function 34 -/
mutual
def exact_Read.j0 : Nat → ByteArray → ByteArray → Bool → Option (Bool × List Int × Int)
 | 0, _, _, _ => none
 | k + 1, x0, x4, x26 => if x26 = true then (some (false, ([] : List Int), 10)) else (exact_Read.l0 k x0 x4 (x4.size : Int) 0)
def exact_Read.l0 : Nat → ByteArray → ByteArray → Int → Int → Option (Bool × List Int × Int)
 | 0, _, _, _, _ => none
 | k + 1, x0, x4, x29, x30 => if x30 < x29 then (if 0 ≤ x30 then (if x30 < (x4.size : Int) then (if (bt x4 x30) < 48 then (some (false, ([] : List Int), 10)) else (if (bt x4 x30) > 57 then (some (false, ([] : List Int), 10)) else (exact_Read.l0 k x0 x4 x29 (wrap64 (x30 + 1))))) else (none)) else (none)) else (exact_Read.l1 k x0 x4 0 false ([] : List Int))
def exact_Read.l1 : Nat → ByteArray → ByteArray → Int → Bool → List Int → Option (Bool × List Int × Int)
 | 0, _, _, _, _, _ => none
 | k + 1, x0, x4, x7, x345000, x345001 => if x7 < (x4.size : Int) then (if x7 = 0 then (exact_Read.j3 k x0 x4 x7 0 (wrap64 (x7 + 9)) (decide (((x4.size : Int) % 9) > 0)) x345000 x345001) else (exact_Read.j3 k x0 x4 x7 0 (wrap64 (x7 + 9)) false x345000 x345001)) else ((exact_made.f (decide ((x4.size : Int) < (x0.size : Int))) x345001).bind fun bt345 => ((exact_fit.f bt345.1 bt345.2).bind fun bt349 => (some (bt349.1, bt349.2.1, bt349.2.2))))
def exact_Read.j3 : Nat → ByteArray → ByteArray → Int → Int → Int → Bool → Bool → List Int → Option (Bool × List Int × Int)
 | 0, _, _, _, _, _, _, _, _ => none
 | k + 1, x0, x4, x7, x8, x9, x58, x345000, x345001 => if x58 = true then (exact_Read.j4 k x0 x4 x7 x8 ((x4.size : Int) % 9) x345000 x345001) else (exact_Read.j4 k x0 x4 x7 x8 x9 x345000 x345001)
def exact_Read.j4 : Nat → ByteArray → ByteArray → Int → Int → Int → Bool → List Int → Option (Bool × List Int × Int)
 | 0, _, _, _, _, _, _, _ => none
 | k + 1, x0, x4, x7, x8, x9, x345000, x345001 => exact_Read.l2 k x0 x4 x7 x8 x9 x345000 x345001
def exact_Read.l2 : Nat → ByteArray → ByteArray → Int → Int → Int → Bool → List Int → Option (Bool × List Int × Int)
 | 0, _, _, _, _, _, _, _ => none
 | k + 1, x0, x4, x7, x8, x9, x345000, x345001 => if x7 < x9 then (if 0 ≤ x7 then (if x7 < (x4.size : Int) then (exact_Read.l2 k x0 x4 (wrap64 (x7 + 1)) ((((10 * x8) % 4294967296) + (((bt x4 x7) - 48) % 256)) % 4294967296) x9 x345000 x345001) else (none)) else (none)) else ((exact_Of.f 1000000000).bind fun bt354 => ((exact_times.f k x345000 x345001 bt354.1 bt354.2).bind fun bt358 => ((exact_Of.f (wrap64 (x8))).bind fun bt362 => ((exact_plus.f k bt358.1 bt358.2 bt362.1 bt362.2).bind fun bt366 => (exact_Read.l1 k x0 x4 x7 bt366.1 bt366.2)))))
end
def exact_Read.f (k : Nat) (a0 : ByteArray) : Option (Bool × List Int × Int) := if (a0.size : Int) > 20000 then (some (false, ([] : List Int), 3)) else ((strings_TrimPrefix.f a0 (⟨#[45]⟩ : ByteArray)).bind fun t343 => (if t343.toList = ([] : List UInt8) then (exact_Read.j0 k a0 t343 true) else (if 0 < (t343.size : Int) then (if (bt t343 0) = 48 then (exact_Read.j0 k a0 t343 (a0.toList != ([48] : List UInt8))) else (exact_Read.j0 k a0 t343 false)) else (none))))
theorem exact_Read.mono_l : ∀ k, (∀ y0 y1 y2, LeO (exact_Read.j0 k y0 y1 y2) (exact_Read.j0 (k + 1) y0 y1 y2)) ∧ (∀ y0 y1 y2 y3, LeO (exact_Read.l0 k y0 y1 y2 y3) (exact_Read.l0 (k + 1) y0 y1 y2 y3)) ∧ (∀ y0 y1 y2 y3 y4, LeO (exact_Read.l1 k y0 y1 y2 y3 y4) (exact_Read.l1 (k + 1) y0 y1 y2 y3 y4)) ∧ (∀ y0 y1 y2 y3 y4 y5 y6 y7, LeO (exact_Read.j3 k y0 y1 y2 y3 y4 y5 y6 y7) (exact_Read.j3 (k + 1) y0 y1 y2 y3 y4 y5 y6 y7)) ∧ (∀ y0 y1 y2 y3 y4 y5 y6, LeO (exact_Read.j4 k y0 y1 y2 y3 y4 y5 y6) (exact_Read.j4 (k + 1) y0 y1 y2 y3 y4 y5 y6)) ∧ (∀ y0 y1 y2 y3 y4 y5 y6, LeO (exact_Read.l2 k y0 y1 y2 y3 y4 y5 y6) (exact_Read.l2 (k + 1) y0 y1 y2 y3 y4 y5 y6))
 | 0 => ⟨fun _ _ _ r h => by simp [exact_Read.j0] at h, fun _ _ _ _ r h => by simp [exact_Read.l0] at h, fun _ _ _ _ _ r h => by simp [exact_Read.l1] at h, fun _ _ _ _ _ _ _ _ r h => by simp [exact_Read.j3] at h, fun _ _ _ _ _ _ _ r h => by simp [exact_Read.j4] at h, fun _ _ _ _ _ _ _ r h => by simp [exact_Read.l2] at h⟩
 | k + 1 => by
  obtain ⟨ih0, ih1, ih2, ih3, ih4, ih5⟩ := exact_Read.mono_l k
  refine ⟨?_, ?_, ?_, ?_, ?_, ?_⟩
  · intro y0 y1 y2
    unfold exact_Read.j0
    repeat' first
    | (with_reducible exact ih1 _ _ _ _)
    | (with_reducible exact LeO.refl _)
    | (with_reducible exact LeO.none _)
    | (with_reducible refine LeO.ite ?_ ?_)
    | (with_reducible refine LeO.bind ?_ (fun _ => ?_))
  · intro y0 y1 y2 y3
    unfold exact_Read.l0
    repeat' first
    | (with_reducible exact ih1 _ _ _ _)
    | (with_reducible exact ih2 _ _ _ _ _)
    | (with_reducible exact LeO.refl _)
    | (with_reducible exact LeO.none _)
    | (with_reducible refine LeO.ite ?_ ?_)
    | (with_reducible refine LeO.bind ?_ (fun _ => ?_))
  · intro y0 y1 y2 y3 y4
    unfold exact_Read.l1
    repeat' first
    | (with_reducible exact ih3 _ _ _ _ _ _ _ _)
    | (with_reducible exact LeO.refl _)
    | (with_reducible exact LeO.none _)
    | (with_reducible refine LeO.ite ?_ ?_)
    | (with_reducible refine LeO.bind ?_ (fun _ => ?_))
  · intro y0 y1 y2 y3 y4 y5 y6 y7
    unfold exact_Read.j3
    repeat' first
    | (with_reducible exact ih4 _ _ _ _ _ _ _)
    | (with_reducible exact LeO.refl _)
    | (with_reducible exact LeO.none _)
    | (with_reducible refine LeO.ite ?_ ?_)
    | (with_reducible refine LeO.bind ?_ (fun _ => ?_))
  · intro y0 y1 y2 y3 y4 y5 y6
    unfold exact_Read.j4
    repeat' first
    | (with_reducible exact ih5 _ _ _ _ _ _ _)
    | (with_reducible exact LeO.refl _)
    | (with_reducible exact LeO.none _)
    | (with_reducible refine LeO.ite ?_ ?_)
    | (with_reducible refine LeO.bind ?_ (fun _ => ?_))
  · intro y0 y1 y2 y3 y4 y5 y6
    unfold exact_Read.l2
    repeat' first
    | (with_reducible exact ih2 _ _ _ _ _)
    | (with_reducible exact ih5 _ _ _ _ _ _ _)
    | (with_reducible exact exact_plus.mono _ _ _ _ _)
    | (with_reducible exact exact_times.mono _ _ _ _ _)
    | (with_reducible exact LeO.refl _)
    | (with_reducible exact LeO.none _)
    | (with_reducible refine LeO.ite ?_ ?_)
    | (with_reducible refine LeO.bind ?_ (fun _ => ?_))
theorem exact_Read.mono : ∀ a0 k, LeO (exact_Read.f k a0) (exact_Read.f (k + 1) a0) := by
 intro a0 k
 obtain ⟨ih0, ih1, ih2, ih3, ih4, ih5⟩ := exact_Read.mono_l k
 unfold exact_Read.f
 repeat' first
  | (with_reducible exact ih0 _ _ _)
  | (with_reducible exact LeO.refl _)
  | (with_reducible exact LeO.none _)
  | (with_reducible refine LeO.ite ?_ ?_)
  | (with_reducible refine LeO.bind ?_ (fun _ => ?_))
def exact_Read.T21 : Bool × List (List Nat × List Nat) := (true, [([], []), ([], []), ([0, 1, 1], [0, 1]), ([], []), ([3], [3]), ([4, 2], [4]), ([2, 5, 5], [2, 5]), ([6, 6, 0, 1, 2, 3, 4, 5, 6], [6])])
def exact_Read.B21 : List Nat := [0, 0, 3, 0, 8, 31, 63, 127]
theorem exact_Read.tab21 : rtab .any (opsOf Try.f34 21) = exact_Read.T21 := by kernel_rfl
theorem exact_Read.bits21 : waitsOk exact_Read.T21.2 exact_Read.B21 = true := by kernel_rfl
set_option maxHeartbeats 8000000 in
set_option maxRecDepth 100000 in
theorem exact_Read.calls (k : Nat) (a0 : ByteArray) (r1 : Bool) (r2 : List Int) (r3 : Int) (w : World) (h : exact_Read.f k a0 = some (r1, r2, r3)) :
 Calls Try.prog 34 #[.string a0] w fun e w' => ∃ v1_ : Value, e = .returned (.tuple #[.agg #[.bool r1, v1_], .int .i64 r3]) ∧ Kd.V (Kd.int .u32) 97 w' w.heap.size (fun k_ => (w.heap.size ≤ k_)) v1_ r2 ∧ Below w.heap.size w w' := by
 have HB := Aside0.mk (Below.refl w.heap.size w)
 have H : (if (a0.size : Int) > 20000 then (some (false, ([] : List Int), 3)) else ((strings_TrimPrefix.f a0 (⟨#[45]⟩ : ByteArray)).bind fun t343 => (if t343.toList = ([] : List UInt8) then (exact_Read.j0 k a0 t343 true) else (if 0 < (t343.size : Int) then (if (bt t343 0) = 48 then (exact_Read.j0 k a0 t343 (a0.toList != ([48] : List UInt8))) else (exact_Read.j0 k a0 t343 false)) else (none))))) = some (r1, r2, r3) := h
 clear h
 by_cases c2 : (a0.size : Int) > 20000
 · rw [if_pos c2] at H
   have c2b0 : decide (20000 < (a0.size : Int)) = true := decide_eq_true c2
   clear c2
   simp only [Option.some.injEq, Prod.mk.injEq] at H
   obtain ⟨rfl, rfl, rfl⟩ := H
   go_enter Try.func34, Try.ntmps34
   go_wp2_with ((with_reducible refine gate_dst (N := 2) rfl ?_); (try (refine gate_guard (by rfl) ?_; dsimp only)); refine box_event ?hg (N := 2) ?hd (cs := #[.bool false, .slice none 0 0]) (t := 43) ?hr ?_; (case hd => rfl); (case hg => rfl); (case hr => first | (go_simp; done) | (go_simp; rfl)); intro gb342 hg w3 hbox hb; have BK342 := Aside0.mk (hbox); have GE342 := Aside0.mk (ge (w := w) hg); replace HB := Aside0.mk (below_step bl hb); clear hb hbox hg; obtain ⟨hcz4_0, hcz4_1, hfz4_0, hfz4_1⟩ := bz2 BK342.out)
   refine bodyPost_ret (results_ct rfl _ _ gb342 43 #[.bool false, .slice none 0 0] (0, 0) _ rfl (by (with_reducible repeat (first | refine blk_drewN ?_ _ | refine blk_drew ?_ | refine blk_alloc ?_ _)); refine blk_put (cs := #[.bool false, .slice none 0 0]) ?_ 1 _ rfl; (with_reducible repeat (first | refine blk_drewN ?_ _ | refine blk_drew ?_ | refine blk_alloc ?_ _)); refine blk_put (cs := #[.bool false, .slice none 0 0]) ?_ 0 _ rfl; (with_reducible repeat (first | refine blk_drewN ?_ _ | refine blk_drew ?_ | refine blk_alloc ?_ _)); exact BK342.out) Try.underlying43 rfl (by kernel_rfl)) rfl ?_
   exact ⟨_, by first | rfl | (simp [errW_none, errW_some] <;> rfl) | (simp [*, errW_none, errW_some] <;> rfl), Kd.V_nil _ _ _ _ _, bl⟩
 rw [if_neg c2] at H
 have c2b0 : decide (20000 < (a0.size : Int)) = false := decide_eq_false c2
 have c2b1 : decide (20000 < a0.size) = false := decide_eq_false (by omega)
 clear c2
 replace H := Option.bind_eq_some_iff.mp H
 obtain ⟨t343, A50, H⟩ := H
 replace H : (if t343.toList = ([] : List UInt8) then (exact_Read.j0 k a0 t343 true) else (if 0 < (t343.size : Int) then (if (bt t343 0) = 48 then (exact_Read.j0 k a0 t343 (a0.toList != ([48] : List UInt8))) else (exact_Read.j0 k a0 t343 false)) else (none))) = some (r1, r2, r3) := H
 have A5 := Aside0.mk A50
 clear A50
 have HC6 := Aside0.mk H
 clear H
 go_enter Try.func34, Try.ntmps34
 go_upto_region 4 with (first | ((with_reducible refine gate_dst (N := 2) rfl ?_); (try (refine gate_guard (by rfl) ?_; dsimp only)); refine box_event ?hg (N := 2) ?hd (cs := #[.bool false, .slice none 0 0]) (t := 43) ?hr ?_; (case hd => rfl); (case hg => rfl); (case hr => first | (go_simp; done) | (go_simp; rfl)); intro gb342 hg w7 hbox hb; have BK342 := Aside0.mk (hbox); have GE342 := Aside0.mk (ge (w := w) hg); replace HB := Aside0.mk (below_step bl hb); clear hb hbox hg) | ((with_reducible refine gate_callee (f := 78) rfl ?_); refine goesL_ (some 15) rfl rfl Try.func78 (by kernel_rfl) rfl #[.string a0, .string (⟨#[45]⟩ : ByteArray)] rfl (by (try simp only [List.map_toArray, List.map_cons, List.map_nil]); first | done | rfl | (simp only [List.length_drop, List.length_take]; rfl)) ?_; (with_reducible refine (strings_TrimPrefix.calls a0 (⟨#[45]⟩ : ByteArray) t343 _ A5.out).mono ?_); rintro e w' ⟨rfl, ⟨nd, rfl⟩⟩; refine ⟨_, rfl, ?_⟩))
 (try simp only [Act.put, List.setIfInBounds_toArray, List.set_cons_zero, List.set_cons_succ])
 go_cut [26] (fun v26 wc => ∃ (kq : Nat) (x26_5 : Bool), v26 = .bool x26_5 ∧ Aside0 (exact_Read.j0 kq a0 t343 x26_5 = some (r1, r2, r3)) ∧ Aside0 (kq ≤ k) ∧ Aside0 (wc.heap[gb342]? = some (.cells #[.bool false, (.slice none 0 0)] 43 (0, 0))) ∧ Aside0 (Below w.heap.size w wc))
 case first =>
  have H := HC6.out
  clear HC6
  by_cases c8 : t343.toList = ([] : List UInt8)
  · rw [if_pos c8] at H
    have c8b0 : (t343.toList == ([] : List UInt8)) = true := beq_iff_eq.mpr c8
    clear c8
    (first | rw [c8b0] | (simp only [i64_w, i32_w]; rw [c8b0]) | skip)
    have H' := Aside0.mk H
    clear H
    go_wp2
    go_meet
    case rel => exact ⟨_, (true), (by first | rfl | (simp; done) | (simp [*]; done)), H', ⟨by first | omega | exact Nat.le_refl _⟩, ⟨bk BK342.out⟩, ⟨bl⟩⟩
  rw [if_neg c8] at H
  have c8b0 : (t343.toList == ([] : List UInt8)) = false := beq_eq_false_iff_ne.mpr c8
  have c8b1 : (t343.toList != ([] : List UInt8)) = true := bne_iff_ne.mpr c8
  (first | rw [c8b0] | (simp only [i64_w, i32_w]; rw [c8b0]) | skip)
  by_cases c9 : 0 < (t343.size : Int)
  rotate_left
  · rw [if_neg c9] at H
    exact absurd H (by simp)
  rw [if_pos c9] at H
  have c9b0 : decide (0 < (t343.size : Int)) = true := decide_eq_true c9
  have c9b1 : decide (0 < t343.size) = true := decide_eq_true (by omega)
  clear c9
  by_cases c11 : (bt t343 0) = 48
  rotate_left
  · rw [if_neg c11] at H
    have c11b0 : ((bt t343 0) == 48) = false := beq_eq_false_iff_ne.mpr c11
    have H' := Aside0.mk H
    clear H
    have p10 : 0 ≤ (0 : Int) := (by omega)
    have q10 : 0 < t343.size := (by have : (0 : Int) < (t343.size : Int) := of_decide_eq_true (by first | (with_reducible assumption) | assumption); omega)
    have hx10 : ∀ h : 0 < t343.size, ((t343[0]'h).toNat : Int) = bt t343 0 := bt_at t343 0
    clear p10
    replace q10 := eq_true q10
    go_wp2
    go_meet
    case rel => exact ⟨_, (false), (by first | rfl | (simp; done) | (simp [*]; done)), H', ⟨by first | omega | exact Nat.le_refl _⟩, ⟨bk BK342.out⟩, ⟨bl⟩⟩
  rw [if_pos c11] at H
  have c11b0 : ((bt t343 0) == 48) = true := beq_iff_eq.mpr c11
  clear c11
  have H' := Aside0.mk H
  clear H
  have p10 : 0 ≤ (0 : Int) := (by omega)
  have q10 : 0 < t343.size := (by have : (0 : Int) < (t343.size : Int) := of_decide_eq_true (by first | (with_reducible assumption) | assumption); omega)
  have hx10 : ∀ h : 0 < t343.size, ((t343[0]'h).toNat : Int) = bt t343 0 := bt_at t343 0
  clear p10
  replace q10 := eq_true q10
  go_wp2
  go_meet
  case rel => exact ⟨_, ((a0.toList != ([48] : List UInt8))), (by first | rfl | (simp; done) | (simp [*]; done)), H', ⟨by first | omega | exact Nat.le_refl _⟩, ⟨bk BK342.out⟩, ⟨bl⟩⟩
 clear HC6
 clear c2b0 c2b1
 obtain ⟨kq, x26_5, rfl, HA, HJ5, BK342, HB⟩ := hcut
 cases kq with
 | zero => exact absurd HA.out (by simp [exact_Read.j0])
 | succ kj5 =>
  have H := HA.out
  clear HA
  simp only [exact_Read.j0] at H
  by_cases c12 : x26_5 = true
  · subst c12
    have H1 : (some (false, ([] : List Int), 10)) = some (r1, r2, r3) := by rw [if_pos rfl] at H; exact H
    clear H
    have H := H1
    clear H1
    simp only [Option.some.injEq, Prod.mk.injEq] at H
    obtain ⟨rfl, rfl, rfl⟩ := H
    obtain ⟨hcz13_0, hcz13_1, hfz13_0, hfz13_1⟩ := bz2 BK342.out
    go_wp2
    refine bodyPost_ret (results_ct rfl _ _ gb342 43 #[.bool false, .slice none 0 0] (0, 0) _ rfl (by (with_reducible repeat (first | refine blk_drewN ?_ _ | refine blk_drew ?_ | refine blk_alloc ?_ _)); refine blk_put (cs := #[.bool false, .slice none 0 0]) ?_ 1 _ rfl; (with_reducible repeat (first | refine blk_drewN ?_ _ | refine blk_drew ?_ | refine blk_alloc ?_ _)); refine blk_put (cs := #[.bool false, .slice none 0 0]) ?_ 0 _ rfl; (with_reducible repeat (first | refine blk_drewN ?_ _ | refine blk_drew ?_ | refine blk_alloc ?_ _)); exact BK342.out) Try.underlying43 rfl (by kernel_rfl)) rfl ?_
    exact ⟨_, by first | rfl | (simp [errW_none, errW_some] <;> rfl) | (simp [*, errW_none, errW_some] <;> rfl), Kd.V_nil _ _ _ _ _, bl⟩
  replace c12 := Bool.eq_false_iff.mpr c12
  subst c12
  have H1 : (exact_Read.l0 kj5 a0 t343 (t343.size : Int) 0) = some (r1, r2, r3) := by rw [if_neg (show ¬ (false = true) by decide)] at H; exact H
  clear H
  have H := H1
  clear H1
  have H' := Aside0.mk H
  clear H
  go_wp2
  go_loopg [30] kj5 (fun kq v30 w' => ∃ (x30_2 : Int) (x343000_2 : Bool), v30 = .int .i64 x30_2 ∧ Aside0 (exact_Read.l0 kq a0 t343 (t343.size : Int) x30_2 = some (r1, r2, r3)) ∧ Aside0 (kq ≤ kj5) ∧ Aside0 (w'.heap[gb342]? = some (.cells #[.bool x343000_2, (.slice none 0 0)] 43 (0, 0))) ∧ Aside0 (Below w.heap.size w w'))
  case atStart => exact ⟨(0), (false), (by first | rfl | (simp; done) | (simp [*]; done)), H', ⟨Nat.le_refl _⟩, ⟨bk BK342.out⟩, ⟨bl⟩⟩
  clear H'
  obtain ⟨x30_2, x343000_2, rfl, HA, HK2, BK342, HB⟩ := hrel
  cases gk with
  | zero => exact absurd HA.out (by simp [exact_Read.l0])
  | succ k2 =>
   have H := HA.out
   clear HA
   simp only [exact_Read.l0] at H
   by_cases c14 : x30_2 < (t343.size : Int)
   · rw [if_pos c14] at H
     have c14b0 : decide (x30_2 < (t343.size : Int)) = true := decide_eq_true c14
     clear c14
     by_cases c15 : 0 ≤ x30_2
     rotate_left
     · rw [if_neg c15] at H
       exact absurd H (by simp)
     rw [if_pos c15] at H
     have c15b0 : decide (0 ≤ x30_2) = true := decide_eq_true c15
     clear c15
     by_cases c16 : x30_2 < (t343.size : Int)
     rotate_left
     · rw [if_neg c16] at H
       exact absurd H (by simp)
     rw [if_pos c16] at H
     have c16b0 : decide (x30_2 < (t343.size : Int)) = true := decide_eq_true c16
     clear c16
     by_cases c18 : (bt t343 x30_2) < 48
     · rw [if_pos c18] at H
       have c18b0 : decide ((bt t343 x30_2) < 48) = true := decide_eq_true c18
       clear c18
       simp only [Option.some.injEq, Prod.mk.injEq] at H
       obtain ⟨rfl, rfl, rfl⟩ := H
       have p17 : 0 ≤ (x30_2 : Int) := of_decide_eq_true (by first | (with_reducible assumption) | assumption)
       have q17 : x30_2 < (t343.size : Int) := of_decide_eq_true (by first | (with_reducible assumption) | assumption)
       have hx17 := bt_at t343 x30_2
       replace p17 := eq_true p17
       replace q17 := eq_true q17
       obtain ⟨hcz19_0, hcz19_1, hfz19_0, hfz19_1⟩ := bz2 BK342.out
       go_wp2
       refine bodyPost_ret (results_ct rfl _ _ gb342 43 #[.bool false, .slice none 0 0] (0, 0) _ rfl (by (with_reducible repeat (first | refine blk_drewN ?_ _ | refine blk_drew ?_ | refine blk_alloc ?_ _)); refine blk_put (cs := #[.bool false, .slice none 0 0]) ?_ 1 _ rfl; (with_reducible repeat (first | refine blk_drewN ?_ _ | refine blk_drew ?_ | refine blk_alloc ?_ _)); refine blk_put (cs := #[.bool x343000_2, .slice none 0 0]) ?_ 0 _ rfl; (with_reducible repeat (first | refine blk_drewN ?_ _ | refine blk_drew ?_ | refine blk_alloc ?_ _)); exact BK342.out) Try.underlying43 rfl (by kernel_rfl)) rfl ?_
       exact ⟨_, by first | rfl | (simp [errW_none, errW_some] <;> rfl) | (simp [*, errW_none, errW_some] <;> rfl), Kd.V_nil _ _ _ _ _, bl⟩
     rw [if_neg c18] at H
     have c18b0 : decide ((bt t343 x30_2) < 48) = false := decide_eq_false c18
     clear c18
     by_cases c21 : (bt t343 x30_2) > 57
     · rw [if_pos c21] at H
       have c21b0 : decide (57 < (bt t343 x30_2)) = true := decide_eq_true c21
       clear c21
       simp only [Option.some.injEq, Prod.mk.injEq] at H
       obtain ⟨rfl, rfl, rfl⟩ := H
       have p17 : 0 ≤ (x30_2 : Int) := of_decide_eq_true (by first | (with_reducible assumption) | assumption)
       have q17 : x30_2 < (t343.size : Int) := of_decide_eq_true (by first | (with_reducible assumption) | assumption)
       have hx17 := bt_at t343 x30_2
       replace p17 := eq_true p17
       replace q17 := eq_true q17
       have p20 : 0 ≤ (x30_2 : Int) := of_decide_eq_true (by first | (with_reducible assumption) | assumption)
       have q20 : x30_2 < (t343.size : Int) := of_decide_eq_true (by first | (with_reducible assumption) | assumption)
       replace p20 := eq_true p20
       replace q20 := eq_true q20
       obtain ⟨hcz22_0, hcz22_1, hfz22_0, hfz22_1⟩ := bz2 BK342.out
       go_wp2
       refine bodyPost_ret (results_ct rfl _ _ gb342 43 #[.bool false, .slice none 0 0] (0, 0) _ rfl (by (with_reducible repeat (first | refine blk_drewN ?_ _ | refine blk_drew ?_ | refine blk_alloc ?_ _)); refine blk_put (cs := #[.bool false, .slice none 0 0]) ?_ 1 _ rfl; (with_reducible repeat (first | refine blk_drewN ?_ _ | refine blk_drew ?_ | refine blk_alloc ?_ _)); refine blk_put (cs := #[.bool x343000_2, .slice none 0 0]) ?_ 0 _ rfl; (with_reducible repeat (first | refine blk_drewN ?_ _ | refine blk_drew ?_ | refine blk_alloc ?_ _)); exact BK342.out) Try.underlying43 rfl (by kernel_rfl)) rfl ?_
       exact ⟨_, by first | rfl | (simp [errW_none, errW_some] <;> rfl) | (simp [*, errW_none, errW_some] <;> rfl), Kd.V_nil _ _ _ _ _, bl⟩
     rw [if_neg c21] at H
     have c21b0 : decide (57 < (bt t343 x30_2)) = false := decide_eq_false c21
     clear c21
     have H' := Aside0.mk H
     clear H
     have p17 : 0 ≤ (x30_2 : Int) := of_decide_eq_true (by first | (with_reducible assumption) | assumption)
     have q17 : x30_2 < (t343.size : Int) := of_decide_eq_true (by first | (with_reducible assumption) | assumption)
     have hx17 := bt_at t343 x30_2
     replace p17 := eq_true p17
     replace q17 := eq_true q17
     have p20 : 0 ≤ (x30_2 : Int) := of_decide_eq_true (by first | (with_reducible assumption) | assumption)
     have q20 : x30_2 < (t343.size : Int) := of_decide_eq_true (by first | (with_reducible assumption) | assumption)
     replace p20 := eq_true p20
     replace q20 := eq_true q20
     go_wp2
     go_roundg k2
     case measure => have := HJ5.out; have := HK2.out; omega
     case rel => exact ⟨(wrap64 (x30_2 + 1)), (x343000_2), (by first | rfl | (simp; done) | (simp [*]; done)), H', ⟨by have := HJ5.out; have := HK2.out; omega⟩, ⟨bk BK342.out⟩, ⟨bl⟩⟩
   rw [if_neg c14] at H
   have c14b0 : decide (x30_2 < (t343.size : Int)) = false := decide_eq_false c14
   clear c14
   have H' := Aside0.mk H
   clear H
   go_wp2_with ((with_reducible refine gate_dst (N := 6) rfl ?_); (try (refine gate_guard (by rfl) ?_; dsimp only)); refine box_event ?hg (N := 6) ?hd (cs := #[.bool false, .slice none 0 0]) (t := 43) ?hr ?_; (case hd => rfl); (case hg => rfl); (case hr => first | (go_simp; done) | (go_simp; rfl)); intro gb344 hg w23 hbox hb; have BK344 := Aside0.mk (hbox); have GE344 := Aside0.mk (ge (w := w) hg); replace HB := Aside0.mk (below_step bl hb); have NB342_344 := Aside0.mk (nl hg (bk BK342.out)); replace BK342 := Aside0.mk (bb BK342.out hb); clear hb hbox hg)
   go_loopg [7] k2 (fun kq v7 w' => ∃ (x7_3 : Int) (x345000_3 : Bool) (x345001_3 : List Int) (u345001 : Value), v7 = .int .i64 x7_3 ∧ Aside0 (exact_Read.l1 kq a0 t343 x7_3 x345000_3 x345001_3 = some (r1, r2, r3)) ∧ Aside0 (kq ≤ k2) ∧ Aside0 (Kd.V (Kd.int .u32) 97 w' w.heap.size (fun k_ => (w.heap.size ≤ k_) ∧ k_ ≠ gb342 ∧ k_ ≠ gb344) u345001 x345001_3) ∧ Aside0 (w'.heap[gb342]? = some (.cells #[.bool x343000_2, (.slice none 0 0)] 43 (0, 0))) ∧ Aside0 (w'.heap[gb344]? = some (.cells #[.bool x345000_3, u345001] 43 (0, 0))) ∧ Aside0 (Below w.heap.size w w'))
   case atStart => exact ⟨(0), (false), (([] : List Int)), (.slice none 0 0), (by first | rfl | (simp; done) | (simp [*]; done)), H', ⟨Nat.le_refl _⟩, ⟨Kd.V_nil _ _ _ _ _⟩, ⟨bk BK342.out⟩, ⟨bk BK344.out⟩, ⟨bl⟩⟩
   clear H'
   clear c14b0
   obtain ⟨x7_3, x345000_3, x345001_3, u345001, rfl, HA, HK3, HO_345001, BK342, BK344, HB⟩ := hrel
   cases gk with
   | zero => exact absurd HA.out (by simp [exact_Read.l1])
   | succ k3 =>
    have H := HA.out
    clear HA
    simp only [exact_Read.l1] at H
    by_cases c24 : x7_3 < (t343.size : Int)
    rotate_left
    · rw [if_neg c24] at H
      have c24b0 : decide (x7_3 < (t343.size : Int)) = false := decide_eq_false c24
      clear c24
      replace H := Option.bind_eq_some_iff.mp H
      obtain ⟨⟨t345, t346⟩, A490, H⟩ := H
      replace H : ((exact_fit.f t345 t346).bind fun bt349 => (some (bt349.1, bt349.2.1, bt349.2.2))) = some (r1, r2, r3) := H
      have A49 := Aside0.mk A490
      clear A490
      replace H := Option.bind_eq_some_iff.mp H
      obtain ⟨⟨t349, t350, t353⟩, A500, H⟩ := H
      replace H : (some (t349, t350, t353)) = some (r1, r2, r3) := H
      have A50 := Aside0.mk A500
      clear A500
      simp only [Option.some.injEq, Prod.mk.injEq] at H
      obtain ⟨rfl, rfl, rfl⟩ := H
      obtain ⟨hcz52_0, hcz52_1, hfz52_0, hfz52_1⟩ := bz2 BK344.out
      obtain ⟨Ao53, co53, eo53⟩ := Kd.V_slice HO_345001.out
      subst eo53
      have ed : decide ((t343.size : Int) < (a0.size : Int)) = decide (t343.size < a0.size) := by simp
      replace A49 := Aside0.mk (ed ▸ A49.out)
      clear ed
      go_wp2_with (first | ((with_reducible refine gate_callee (f := 68) rfl ?_); refine goesL_ (some 89) rfl rfl Try.func68 (by kernel_rfl) rfl #[.bool (decide (t343.size < a0.size)), .slice Ao53 x345001_3.length co53] rfl (by (try simp only [List.map_toArray, List.map_cons, List.map_nil]); first | done | rfl | (simp only [List.length_drop, List.length_take]; rfl)) ?_; (with_reducible refine (exact_made.calls (decide (t343.size < a0.size)) (fun k_ => ((w.heap.size ≤ k_) ∧ (k_ ≠ gb342 ∧ k_ ≠ gb344))) _ _ x345001_3 t345 t346 _ ?side1 A49.out).mono ?_); (case side1 => exact HO_345001.out); rintro e w54 ⟨v347, rfl, ho0, hb⟩; refine ⟨_, rfl, ?_⟩; replace HO_345001 := Aside0.mk (vb HO_345001.out hb); have HO348 := Aside0.mk (Kd.V_lower (Kd.V_mono (ok' := fun k_ => (w.heap.size ≤ k_) ∧ k_ ≠ gb342 ∧ k_ ≠ gb344) ho0 (fun k_ hk_ => ⟨Or.elim hk_ (fun hs_ => hs_.1) (fun hn_ => (Nat.le_trans (below_size bl) hn_)), Or.elim hk_ (fun hs_ => hs_.2.1) (fun hn_ => (Kd.freshB (g := gb342) (o := .cells #[.bool x343000_2, .slice none 0 0] 43 (0, 0)) (bk BK342.out) k_ hn_)), Or.elim hk_ (fun hs_ => hs_.2.2) (fun hn_ => (Kd.freshB (g := gb344) (o := .cells #[.bool x345000_3, .slice Ao53 x345001_3.length co53] 43 (0, 0)) (bk BK344.out) k_ hn_))⟩)) (below_size bl)); replace BK342 := Aside0.mk (bb BK342.out hb); replace BK344 := Aside0.mk (bb BK344.out hb); replace HB := Aside0.mk (below_step bl hb); (try clear hb); (try clear ho0); obtain ⟨Ao55, co55, eo55⟩ := Kd.V_slice HO348.out; subst eo55) | ((with_reducible refine gate_callee (f := 73) rfl ?_); refine goesL_ (some 90) rfl rfl Try.func73 (by kernel_rfl) rfl #[.agg #[.bool t345, .slice Ao55 t346.length co55]] rfl (by (try simp only [List.map_toArray, List.map_cons, List.map_nil]); first | done | rfl | (simp only [List.length_drop, List.length_take]; rfl)) ?_; (with_reducible refine (exact_fit.calls t345 (fun k_ => ((w.heap.size ≤ k_) ∧ (k_ ≠ gb342 ∧ k_ ≠ gb344))) _ _ t346 t349 t350 t353 _ ?side1 A50.out).mono ?_); (case side1 => exact HO348.out); rintro e w56 ⟨v351, rfl, ho0, hb⟩; refine ⟨_, rfl, ?_⟩; replace HO_345001 := Aside0.mk (vb HO_345001.out hb); replace HO348 := Aside0.mk (vb HO348.out hb); have HO352 := Aside0.mk (Kd.V_lower (Kd.V_mono (ok' := fun k_ => (w.heap.size ≤ k_) ∧ k_ ≠ gb342 ∧ k_ ≠ gb344) ho0 (fun k_ hk_ => ⟨Or.elim hk_ (fun hs_ => hs_.1) (fun hn_ => (Nat.le_trans (below_size bl) hn_)), Or.elim hk_ (fun hs_ => hs_.2.1) (fun hn_ => (Kd.freshB (g := gb342) (o := .cells #[.bool x343000_2, .slice none 0 0] 43 (0, 0)) (bk BK342.out) k_ hn_)), Or.elim hk_ (fun hs_ => hs_.2.2) (fun hn_ => (Kd.freshB (g := gb344) (o := .cells #[.bool x345000_3, .slice Ao53 x345001_3.length co53] 43 (0, 0)) (bk BK344.out) k_ hn_))⟩)) (below_size bl)); replace BK342 := Aside0.mk (bb BK342.out hb); replace BK344 := Aside0.mk (bb BK344.out hb); replace HB := Aside0.mk (below_step bl hb); (try clear hb); (try clear ho0); obtain ⟨hcz57_0, hcz57_1, hfz57_0, hfz57_1⟩ := bz2 BK342.out; obtain ⟨Ao58, co58, eo58⟩ := Kd.V_slice HO352.out; subst eo58))
      refine bodyPost_ret (results_ct rfl _ _ gb342 43 #[.bool t349, .slice Ao58 t350.length co58] (0, 0) _ rfl (by (with_reducible repeat (first | refine blk_drewN ?_ _ | refine blk_drew ?_ | refine blk_alloc ?_ _)); refine blk_put (cs := #[.bool t349, .slice none 0 0]) ?_ 1 _ rfl; (with_reducible repeat (first | refine blk_drewN ?_ _ | refine blk_drew ?_ | refine blk_alloc ?_ _)); refine blk_put (cs := #[.bool x343000_2, .slice none 0 0]) ?_ 0 _ rfl; (with_reducible repeat (first | refine blk_drewN ?_ _ | refine blk_drew ?_ | refine blk_alloc ?_ _)); exact BK342.out) Try.underlying43 rfl (by kernel_rfl)) rfl ?_
      exact ⟨_, by first | rfl | (simp [errW_none, errW_some] <;> rfl) | (simp [*, errW_none, errW_some] <;> rfl), by (with_reducible repeat (first | apply Kd.V_alloc | apply Kd.V_drewN | apply Kd.V_drew)); exact Kd.V_mono (Kd.V_far (p := ⟨gb342, 1, none⟩) (Kd.V_far (p := ⟨gb342, 0, none⟩) (Kd.V_mono HO352.out (fun k_ hk => (⟨hk, hk.2.1⟩ : _ ∧ k_ ≠ gb342))) (fun _ hk => hk.2) (.bool t349)) (fun _ hk => hk.2) (.slice Ao58 t350.length co58)) (fun _ hk => hk.1.1), bl⟩
    rw [if_pos c24] at H
    have c24b0 : decide (x7_3 < (t343.size : Int)) = true := decide_eq_true c24
    clear c24
    have HC25 := Aside0.mk H
    clear H
    go_upto_region 16 with (fail)
    go_cut [58] (fun v58 wc => ∃ (kq : Nat) (x58_24 : Bool), v58 = .bool x58_24 ∧ Aside0 (exact_Read.j3 kq a0 t343 x7_3 0 (wrap64 (x7_3 + 9)) x58_24 x345000_3 x345001_3 = some (r1, r2, r3)) ∧ Aside0 (kq ≤ k3) ∧ Aside0 (Kd.V (Kd.int .u32) 97 wc w.heap.size (fun k_ => (w.heap.size ≤ k_) ∧ k_ ≠ gb342 ∧ k_ ≠ gb344) u345001 x345001_3) ∧ Aside0 (wc.heap[gb342]? = some (.cells #[.bool x343000_2, (.slice none 0 0)] 43 (0, 0))) ∧ Aside0 (wc.heap[gb344]? = some (.cells #[.bool x345000_3, u345001] 43 (0, 0))) ∧ Aside0 (Below w.heap.size w wc))
    case first =>
     have H := HC25.out
     clear HC25
     by_cases c26 : x7_3 = 0
     rotate_left
     · rw [if_neg c26] at H
       have c26b0 : (x7_3 == 0) = false := beq_eq_false_iff_ne.mpr c26
       (first | rw [c26b0] | (simp only [i64_w, i32_w]; rw [c26b0]) | skip)
       have H' := Aside0.mk H
       clear H
       go_wp2
       go_meet
       case rel => exact ⟨_, (false), (by first | rfl | (simp; done) | (simp [*]; done)), H', ⟨by have := HJ5.out; have := HK2.out; have := HK3.out; first | omega | exact Nat.le_refl _⟩, ⟨by (with_reducible repeat (first | apply Kd.V_alloc | apply Kd.V_drewN | apply Kd.V_drew)); exact HO_345001.out⟩, ⟨bk BK342.out⟩, ⟨bk BK344.out⟩, ⟨bl⟩⟩
     rw [if_pos c26] at H
     have c26b0 : (x7_3 == 0) = true := beq_iff_eq.mpr c26
     clear c26
     (first | rw [c26b0] | (simp only [i64_w, i32_w]; rw [c26b0]) | skip)
     have H' := Aside0.mk H
     clear H
     go_wp2
     go_meet
     case rel => exact ⟨_, (decide (((t343.size : Int) % 9) > 0)), (by first | rfl | (simp; done) | (simp [*]; done)), H', ⟨by have := HJ5.out; have := HK2.out; have := HK3.out; first | omega | exact Nat.le_refl _⟩, ⟨by (with_reducible repeat (first | apply Kd.V_alloc | apply Kd.V_drewN | apply Kd.V_drew)); exact HO_345001.out⟩, ⟨bk BK342.out⟩, ⟨bk BK344.out⟩, ⟨bl⟩⟩
    clear HC25
    clear c24b0
    obtain ⟨kq, x58_24, rfl, HA, HJ24, HO_345001, BK342, BK344, HB⟩ := hcut
    cases kq with
    | zero => exact absurd HA.out (by simp [exact_Read.j3])
    | succ kj24 =>
     have H := HA.out
     clear HA
     simp only [exact_Read.j3] at H
     have HC27 := Aside0.mk H
     clear H
     go_upto_if 58 with (fail)
     go_cut [9] (fun v9 wc => ∃ (kq : Nat) (x9_26 : Int), v9 = .int .i64 x9_26 ∧ Aside0 (exact_Read.j4 kq a0 t343 x7_3 0 x9_26 x345000_3 x345001_3 = some (r1, r2, r3)) ∧ Aside0 (kq ≤ kj24) ∧ Aside0 (Kd.V (Kd.int .u32) 97 wc w.heap.size (fun k_ => (w.heap.size ≤ k_) ∧ k_ ≠ gb342 ∧ k_ ≠ gb344) u345001 x345001_3) ∧ Aside0 (wc.heap[gb342]? = some (.cells #[.bool x343000_2, (.slice none 0 0)] 43 (0, 0))) ∧ Aside0 (wc.heap[gb344]? = some (.cells #[.bool x345000_3, u345001] 43 (0, 0))) ∧ Aside0 (Below w.heap.size w wc))
     case first =>
      have H := HC27.out
      clear HC27
      by_cases c28 : x58_24 = true
      · subst c28
        have H1 : (exact_Read.j4 kj24 a0 t343 x7_3 0 ((t343.size : Int) % 9) x345000_3 x345001_3) = some (r1, r2, r3) := by rw [if_pos rfl] at H; exact H
        clear H
        have H := H1
        clear H1
        have H' := Aside0.mk H
        clear H
        go_wp2
        go_meet
        case rel => exact ⟨_, ((t343.size : Int) % 9), (by first | rfl | (simp; done) | (simp [*]; done)), H', ⟨by have := HJ5.out; have := HK2.out; have := HK3.out; have := HJ24.out; first | omega | exact Nat.le_refl _⟩, ⟨by (with_reducible repeat (first | apply Kd.V_alloc | apply Kd.V_drewN | apply Kd.V_drew)); exact HO_345001.out⟩, ⟨bk BK342.out⟩, ⟨bk BK344.out⟩, ⟨bl⟩⟩
      replace c28 := Bool.eq_false_iff.mpr c28
      subst c28
      have H1 : (exact_Read.j4 kj24 a0 t343 x7_3 0 (wrap64 (x7_3 + 9)) x345000_3 x345001_3) = some (r1, r2, r3) := by rw [if_neg (show ¬ (false = true) by decide)] at H; exact H
      clear H
      have H := H1
      clear H1
      have H' := Aside0.mk H
      clear H
      go_wp2
      go_meet
      case rel => exact ⟨_, ((wrap64 (x7_3 + 9))), (by first | rfl | (simp; done) | (simp [*]; done)), H', ⟨by have := HJ5.out; have := HK2.out; have := HK3.out; have := HJ24.out; first | omega | exact Nat.le_refl _⟩, ⟨by (with_reducible repeat (first | apply Kd.V_alloc | apply Kd.V_drewN | apply Kd.V_drew)); exact HO_345001.out⟩, ⟨bk BK342.out⟩, ⟨bk BK344.out⟩, ⟨bl⟩⟩
     clear HC27
     obtain ⟨kq, x9_26, rfl, HA, HJ26, HO_345001, BK342, BK344, HB⟩ := hcut
     cases kq with
     | zero => exact absurd HA.out (by simp [exact_Read.j4])
     | succ kj26 =>
      have H := HA.out
      clear HA
      simp only [exact_Read.j4] at H
      have H' := Aside0.mk H
      clear H
      go_wp2
      go_loopg [7, 8] kj26 (fun kq v7 v8 w' => ∃ (x7_6 : Int) (x8_6 : Int), v7 = .int .i64 x7_6 ∧ v8 = .int .u32 x8_6 ∧ Aside0 (exact_Read.l2 kq a0 t343 x7_6 x8_6 x9_26 x345000_3 x345001_3 = some (r1, r2, r3)) ∧ Aside0 (kq ≤ kj26) ∧ Aside0 (Kd.V (Kd.int .u32) 97 w' w.heap.size (fun k_ => (w.heap.size ≤ k_) ∧ k_ ≠ gb342 ∧ k_ ≠ gb344) u345001 x345001_3) ∧ Aside0 (w'.heap[gb342]? = some (.cells #[.bool x343000_2, (.slice none 0 0)] 43 (0, 0))) ∧ Aside0 (w'.heap[gb344]? = some (.cells #[.bool x345000_3, u345001] 43 (0, 0))) ∧ Aside0 (Below w.heap.size w w'))
      case atStart => exact ⟨(x7_3), (0), (by first | rfl | (simp; done) | (simp [*]; done)), (by first | rfl | (simp; done) | (simp [*]; done)), H', ⟨Nat.le_refl _⟩, ⟨by (with_reducible repeat (first | apply Kd.V_alloc | apply Kd.V_drewN | apply Kd.V_drew)); exact HO_345001.out⟩, ⟨bk BK342.out⟩, ⟨bk BK344.out⟩, ⟨bl⟩⟩
      clear H'
      obtain ⟨x7_6, x8_6, rfl, rfl, HA, HK6, HO_345001, BK342, BK344, HB⟩ := hrel
      cases gk with
      | zero => exact absurd HA.out (by simp [exact_Read.l2])
      | succ k6 =>
       have H := HA.out
       clear HA
       simp only [exact_Read.l2] at H
       by_cases c29 : x7_6 < x9_26
       · rw [if_pos c29] at H
         have c29b0 : decide (x7_6 < x9_26) = true := decide_eq_true c29
         clear c29
         by_cases c30 : 0 ≤ x7_6
         rotate_left
         · rw [if_neg c30] at H
           exact absurd H (by simp)
         rw [if_pos c30] at H
         have c30b0 : decide (0 ≤ x7_6) = true := decide_eq_true c30
         clear c30
         by_cases c31 : x7_6 < (t343.size : Int)
         rotate_left
         · rw [if_neg c31] at H
           exact absurd H (by simp)
         rw [if_pos c31] at H
         have c31b0 : decide (x7_6 < (t343.size : Int)) = true := decide_eq_true c31
         clear c31
         have H' := Aside0.mk H
         clear H
         have p32 : 0 ≤ (x7_6 : Int) := of_decide_eq_true (by first | (with_reducible assumption) | assumption)
         have q32 : x7_6 < (t343.size : Int) := of_decide_eq_true (by first | (with_reducible assumption) | assumption)
         have hx32 := bt_at t343 x7_6
         replace p32 := eq_true p32
         replace q32 := eq_true q32
         go_wp2
         go_roundg k6
         case measure => have := HJ5.out; have := HK2.out; have := HK3.out; have := HJ24.out; have := HJ26.out; have := HK6.out; omega
         case rel => exact ⟨(wrap64 (x7_6 + 1)), ((((10 * x8_6) % 4294967296) + (((bt t343 x7_6) - 48) % 256)) % 4294967296), (by first | rfl | (simp; done) | (simp [*]; done)), (by first | rfl | (simp; done) | (simp [*]; done)), H', ⟨by have := HJ5.out; have := HK2.out; have := HK3.out; have := HJ24.out; have := HJ26.out; have := HK6.out; omega⟩, ⟨by (with_reducible repeat (first | apply Kd.V_alloc | apply Kd.V_drewN | apply Kd.V_drew)); exact HO_345001.out⟩, ⟨bk BK342.out⟩, ⟨bk BK344.out⟩, ⟨bl⟩⟩
       rw [if_neg c29] at H
       have c29b0 : decide (x7_6 < x9_26) = false := decide_eq_false c29
       clear c29
       replace H := Option.bind_eq_some_iff.mp H
       obtain ⟨⟨t354, t355⟩, A330, H⟩ := H
       replace H : ((exact_times.f k6 x345000_3 x345001_3 t354 t355).bind fun bt358 => ((exact_Of.f (wrap64 (x8_6))).bind fun bt362 => ((exact_plus.f k6 bt358.1 bt358.2 bt362.1 bt362.2).bind fun bt366 => (exact_Read.l1 k6 a0 t343 x7_6 bt366.1 bt366.2)))) = some (r1, r2, r3) := H
       have A33 := Aside0.mk A330
       clear A330
       replace H := Option.bind_eq_some_iff.mp H
       obtain ⟨⟨t358, t359⟩, A340, H⟩ := H
       replace H : ((exact_Of.f (wrap64 (x8_6))).bind fun bt362 => ((exact_plus.f k6 t358 t359 bt362.1 bt362.2).bind fun bt366 => (exact_Read.l1 k6 a0 t343 x7_6 bt366.1 bt366.2))) = some (r1, r2, r3) := H
       have A34 := Aside0.mk A340
       clear A340
       replace H := Option.bind_eq_some_iff.mp H
       obtain ⟨⟨t362, t363⟩, A350, H⟩ := H
       replace H : ((exact_plus.f k6 t358 t359 t362 t363).bind fun bt366 => (exact_Read.l1 k6 a0 t343 x7_6 bt366.1 bt366.2)) = some (r1, r2, r3) := H
       have A35 := Aside0.mk A350
       clear A350
       replace H := Option.bind_eq_some_iff.mp H
       obtain ⟨⟨t366, t367⟩, A360, H⟩ := H
       replace H : (exact_Read.l1 k6 a0 t343 x7_6 t366 t367) = some (r1, r2, r3) := H
       have A36 := Aside0.mk A360
       clear A360
       have H' := Aside0.mk H
       clear H
       try go_wp2
       replace HO_345001 := Aside0.mk (Kd.V_drew HO_345001.out); replace BK342 := Aside0.mk (blk_drew BK342.out); replace BK344 := Aside0.mk (blk_drew BK344.out); replace HB := Aside0.mk (below_drew1 HB.out)
       refine start_ (n := 8) (S := fun w' => w'.cell? ⟨gb344, 0, none⟩ = some (.bool x345000_3) ∧ w'.cell? ⟨gb344, 1, none⟩ = some (u345001)) (ds := [7]) #[false,false,false,false,false,false,false,false] (by kernel_rfl) rfl rfl ⟨(blk_cell BK344.out 0).trans rfl, (blk_cell BK344.out 1).trans rfl⟩ (fun hHeld => ?_); refine with_tabW exact_Read.tab21 exact_Read.bits21 (fun HT_ HW_ => ?_)
       generalize wr.drew = w37 at HO_345001 BK342 BK344 HB hHeld ⊢
       refine pure_ (i := 3) (N := some 78) (v := ?_) (a' := ?_) #[false,false,false,true,false,false,false,false] rfl rfl (any_of HT_.out (by kernel_rfl)) (fun _ _ _ h => h) (Or.inl ⟨by rfl, ?_⟩) ?_ ?_
       rotate_left; focus (intro w'; go_simp; with_reducible rfl)
       rotate_left; focus (simp only [Act.put, List.setIfInBounds_toArray, List.set_cons_zero, List.set_cons_succ, i64_w, i32_w]; rfl)
       refine pure_ (i := 4) (N := some 79) (v := ?_) (a' := ?_) #[false,false,false,true,true,false,false,false] rfl rfl (any_of HT_.out (by kernel_rfl)) (fun _ _ _ h => h) (Or.inl ⟨by rfl, ?_⟩) ?_ ?_
       rotate_left; focus (intro w'; go_simp; with_reducible rfl)
       rotate_left; focus (simp only [Act.put, List.setIfInBounds_toArray, List.set_cons_zero, List.set_cons_succ, i64_w, i32_w]; rfl)
       refine take_ (i := 0) (N := some 75) (v := ?_) (a' := ?_) #[true,false,false,true,true,false,false,false] rfl rfl (take_ofW HT_.out HW_.out (by kernel_rfl)) (fun _ _ _ h => h) (Or.inl ⟨by rfl, ?_⟩) hHeld ?_ ?_
       rotate_left
       · rintro w' ⟨s0, s1⟩
         go_simp
         with_reducible rfl
       rotate_left; focus (simp only [Act.put, List.setIfInBounds_toArray, List.set_cons_zero, List.set_cons_succ, i64_w, i32_w]; rfl)
       refine one_ (i := 1) (N := some 76) #[true,true,false,true,true,false,false,false] rfl rfl (one_of HT_.out (by kernel_rfl)) (by decide) (fun K hK => ?_)
       refine goes_ Try.func27 (by kernel_rfl) rfl #[.int .i64 1000000000] (by rfl) rfl rfl (by (try simp only [List.map_toArray, List.map_cons, List.map_nil]); first | done | rfl | (simp only [List.length_drop, List.length_take]; rfl)) ?_
       with_reducible refine (exact_Of.calls 1000000000 t354 t355 _ A33.out).mono ?_
       rintro e w38 ⟨v356, rfl, ho0, hb⟩
       refine ⟨_, rfl, ?_⟩
       replace HO_345001 := Aside0.mk (vb HO_345001.out hb); have HO357 := Aside0.mk (Kd.V_lower (Kd.V_mono (ok' := fun k_ => (w.heap.size ≤ k_) ∧ k_ ≠ gb342 ∧ k_ ≠ gb344) ho0 (fun k_ hk_ => ⟨(Nat.le_trans (below_size bl) hk_), (Kd.freshB (g := gb342) (o := .cells #[.bool x343000_2, .slice none 0 0] 43 (0, 0)) (bk BK342.out) k_ hk_), (Kd.freshB (g := gb344) (o := .cells #[.bool x345000_3, u345001] 43 (0, 0)) (bk BK344.out) k_ hk_)⟩)) (below_size bl)); replace BK342 := Aside0.mk (bb BK342.out hb); replace BK344 := Aside0.mk (bb BK344.out hb); replace HB := Aside0.mk (below_step bl hb)
       (try clear hb)
       (try clear hb2)
       (try clear hk)
       (try clear hi)
       (try clear ho0)
       obtain ⟨Ao39, co39, eo39⟩ := Kd.V_slice HO_345001.out
       (first | subst eo39 | (injection eo39 with f1_ f2_ f3_; have f4_ := f1_.symm; have f5_ := f3_.symm; clear f1_ f2_ f3_; subst f4_; subst f5_))
       obtain ⟨Ao40, co40, eo40⟩ := Kd.V_slice HO357.out
       (first | subst eo40 | (injection eo40 with f1_ f2_ f3_; have f4_ := f1_.symm; have f5_ := f3_.symm; clear f1_ f2_ f3_; subst f4_; subst f5_))
       refine hK.out _ _ ⟨(blk_cell BK344.out 0).trans rfl, (blk_cell BK344.out 1).trans rfl⟩ (fun hHeld => ?_)
       clear hK K
       refine norm_ (a' := ?_) ?_ ?_
       rotate_left; focus (show Act.put _ (some 76) _ = _; simp only [Act.put, List.setIfInBounds_toArray, List.set_cons_zero, List.set_cons_succ, i64_w, i32_w]; rfl)
       refine one_ (i := 2) (N := some 77) #[true,true,true,true,true,false,false,false] rfl rfl (one_of HT_.out (by kernel_rfl)) (by decide) (fun K hK => ?_)
       refine goes_ Try.func79 (by kernel_rfl) rfl #[.agg #[.bool x345000_3, .slice Ao39 x345001_3.length co39], .agg #[.bool t354, .slice Ao40 t355.length co40]] (by rfl) rfl rfl (by (try simp only [List.map_toArray, List.map_cons, List.map_nil]); first | done | rfl | (simp only [List.length_drop, List.length_take]; rfl)) ?_
       with_reducible refine (exact_times.calls k6 x345000_3 _ _ x345001_3 t354 _ _ t355 t358 t359 _ ?side1 ?side2 ?side3 ?side4 A34.out).mono ?_
       (case side1 => exact kc ((Kd.V_reads' HO_345001.out).2.2))
       (case side2 => exact (Kd.V_reads' HO_345001.out).2.1)
       (case side3 => exact kc ((Kd.V_reads' HO357.out).2.2))
       (case side4 => exact (Kd.V_reads' HO357.out).2.1)
       rintro e w41 ⟨v360, rfl, ho0, hb⟩
       refine ⟨_, rfl, ?_⟩
       replace HO_345001 := Aside0.mk (vb HO_345001.out hb); replace HO357 := Aside0.mk (vb HO357.out hb); have HO361 := Aside0.mk (Kd.V_lower (Kd.V_mono (ok' := fun k_ => (w.heap.size ≤ k_) ∧ k_ ≠ gb342 ∧ k_ ≠ gb344) ho0 (fun k_ hk_ => ⟨(Nat.le_trans (below_size bl) hk_), (Kd.freshB (g := gb342) (o := .cells #[.bool x343000_2, .slice none 0 0] 43 (0, 0)) (bk BK342.out) k_ hk_), (Kd.freshB (g := gb344) (o := .cells #[.bool x345000_3, .slice Ao39 x345001_3.length co39] 43 (0, 0)) (bk BK344.out) k_ hk_)⟩)) (below_size bl)); replace BK342 := Aside0.mk (bb BK342.out hb); replace BK344 := Aside0.mk (bb BK344.out hb); replace HB := Aside0.mk (below_step bl hb)
       (try clear hb)
       (try clear hb2)
       (try clear hk)
       (try clear hi)
       (try clear ho0)
       refine hK.out _ _ ⟨(blk_cell BK344.out 0).trans rfl, (blk_cell BK344.out 1).trans rfl⟩ (fun hHeld => ?_)
       clear hK K
       refine norm_ (a' := ?_) ?_ ?_
       rotate_left; focus (show Act.put _ (some 77) _ = _; simp only [Act.put, List.setIfInBounds_toArray, List.set_cons_zero, List.set_cons_succ, i64_w, i32_w]; rfl)
       refine one_ (i := 5) (N := some 80) #[true,true,true,true,true,true,false,false] rfl rfl (one_of HT_.out (by kernel_rfl)) (by decide) (fun K hK => ?_)
       refine goes_ Try.func27 (by kernel_rfl) rfl #[.int .i64 (wrap64 (x8_6))] (by rfl) rfl rfl (by (try simp only [List.map_toArray, List.map_cons, List.map_nil]); first | done | rfl | (simp only [List.length_drop, List.length_take]; rfl)) ?_
       with_reducible refine (exact_Of.calls (wrap64 (x8_6)) t362 t363 _ A35.out).mono ?_
       rintro e w42 ⟨v364, rfl, ho0, hb⟩
       refine ⟨_, rfl, ?_⟩
       replace HO_345001 := Aside0.mk (vb HO_345001.out hb); replace HO357 := Aside0.mk (vb HO357.out hb); replace HO361 := Aside0.mk (vb HO361.out hb); have HO365 := Aside0.mk (Kd.V_lower (Kd.V_mono (ok' := fun k_ => (w.heap.size ≤ k_) ∧ k_ ≠ gb342 ∧ k_ ≠ gb344) ho0 (fun k_ hk_ => ⟨(Nat.le_trans (below_size bl) hk_), (Kd.freshB (g := gb342) (o := .cells #[.bool x343000_2, .slice none 0 0] 43 (0, 0)) (bk BK342.out) k_ hk_), (Kd.freshB (g := gb344) (o := .cells #[.bool x345000_3, .slice Ao39 x345001_3.length co39] 43 (0, 0)) (bk BK344.out) k_ hk_)⟩)) (below_size bl)); replace BK342 := Aside0.mk (bb BK342.out hb); replace BK344 := Aside0.mk (bb BK344.out hb); replace HB := Aside0.mk (below_step bl hb)
       (try clear hb)
       (try clear hb2)
       (try clear hk)
       (try clear hi)
       (try clear ho0)
       obtain ⟨Ao43, co43, eo43⟩ := Kd.V_slice HO361.out
       (first | subst eo43 | (injection eo43 with f1_ f2_ f3_; have f4_ := f1_.symm; have f5_ := f3_.symm; clear f1_ f2_ f3_; subst f4_; subst f5_))
       obtain ⟨Ao44, co44, eo44⟩ := Kd.V_slice HO365.out
       (first | subst eo44 | (injection eo44 with f1_ f2_ f3_; have f4_ := f1_.symm; have f5_ := f3_.symm; clear f1_ f2_ f3_; subst f4_; subst f5_))
       refine hK.out _ _ ⟨(blk_cell BK344.out 0).trans rfl, (blk_cell BK344.out 1).trans rfl⟩ (fun hHeld => ?_)
       clear hK K
       refine norm_ (a' := ?_) ?_ ?_
       rotate_left; focus (show Act.put _ (some 80) _ = _; simp only [Act.put, List.setIfInBounds_toArray, List.set_cons_zero, List.set_cons_succ, i64_w, i32_w]; rfl)
       refine one_ (i := 6) (N := some 81) #[true,true,true,true,true,true,true,false] rfl rfl (one_of HT_.out (by kernel_rfl)) (by decide) (fun K hK => ?_)
       refine goes_ Try.func74 (by kernel_rfl) rfl #[.agg #[.bool t358, .slice Ao43 t359.length co43], .agg #[.bool t362, .slice Ao44 t363.length co44]] (by rfl) rfl rfl (by (try simp only [List.map_toArray, List.map_cons, List.map_nil]); first | done | rfl | (simp only [List.length_drop, List.length_take]; rfl)) ?_
       with_reducible refine (exact_plus.calls k6 t358 _ _ t359 t362 _ _ t363 t366 t367 _ ?side1 ?side2 ?side3 ?side4 A36.out).mono ?_
       (case side1 => exact kc ((Kd.V_reads' HO361.out).2.2))
       (case side2 => exact (Kd.V_reads' HO361.out).2.1)
       (case side3 => exact kc ((Kd.V_reads' HO365.out).2.2))
       (case side4 => exact (Kd.V_reads' HO365.out).2.1)
       rintro e w45 ⟨v368, rfl, ho0, hb⟩
       refine ⟨_, rfl, ?_⟩
       have n0_ := Aside0.mk (vb HO_345001.out hb)
       have n1_ := Aside0.mk (vb HO357.out hb)
       have n2_ := Aside0.mk (vb HO361.out hb)
       have n3_ := Aside0.mk (vb HO365.out hb)
       have n4_ := Aside0.mk (Kd.V_lower (Kd.V_mono (ok' := fun k_ => (w.heap.size ≤ k_) ∧ k_ ≠ gb342 ∧ k_ ≠ gb344) ho0 (fun k_ hk_ => ⟨(Nat.le_trans (below_size bl) hk_), (Kd.freshB (g := gb342) (o := .cells #[.bool x343000_2, .slice none 0 0] 43 (0, 0)) (bk BK342.out) k_ hk_), (Kd.freshB (g := gb344) (o := .cells #[.bool x345000_3, .slice Ao39 x345001_3.length co39] 43 (0, 0)) (bk BK344.out) k_ hk_)⟩)) (below_size bl))
       have n5_ := Aside0.mk (bb BK342.out hb)
       have n6_ := Aside0.mk (bb BK344.out hb)
       have n7_ := Aside0.mk (below_step bl hb)
       clear HO_345001
       clear HO357
       clear HO361
       clear HO365
       clear BK342
       clear BK344
       clear HB
       have HO369 := n4_
       have BK342 := n5_
       have BK344 := n6_
       have HB := n7_
       clear n0_ n1_ n2_ n3_ n4_ n5_ n6_ n7_
       (try clear hb)
       (try clear hb2)
       (try clear hk)
       (try clear hi)
       (try clear ho0)
       obtain ⟨Ao47, co47, eo47⟩ := Kd.V_slice HO369.out
       (first | subst eo47 | (injection eo47 with f1_ f2_ f3_; have f4_ := f1_.symm; have f5_ := f3_.symm; clear f1_ f2_ f3_; subst f4_; subst f5_))
       refine hK.out _ _ ⟨(blk_cell BK344.out 0).trans rfl, (blk_cell BK344.out 1).trans rfl⟩ (fun hHeld => ?_)
       clear hK K
       refine norm_ (a' := ?_) ?_ ?_
       rotate_left; focus (show Act.put _ (some 81) _ = _; simp only [Act.put, List.setIfInBounds_toArray, List.set_cons_zero, List.set_cons_succ, i64_w, i32_w]; rfl)
       refine last_ (i := 7) (N := none) #[true,true,true,true,true,true,true,true] rfl rfl (one_of HT_.out (by kernel_rfl)) (by decide) (fun K hK => ?_)
       have hfs46 := blk_frozen BK344.out 0
       have hfs48 := blk_frozen BK344.out 1
       refine skip_ (w1 := ?_) (by rfl) rfl ?_ ?_
       rotate_left; focus (go_simp; rfl)
       refine hK.out _ _ ?_
       clear hK K
       refine done_ (done_of HT_.out (by kernel_rfl)) ?_
       try go_wp2
       go_roundg k6
       case measure => have := HJ5.out; have := HK2.out; have := HK3.out; have := HJ24.out; have := HJ26.out; have := HK6.out; omega
       case rel => exact ⟨(x7_6), (t366), (t367), (.slice Ao47 t367.length co47), (by first | rfl | (simp; done) | (simp [*]; done)), H', ⟨by have := HJ5.out; have := HK2.out; have := HK3.out; have := HJ24.out; have := HJ26.out; have := HK6.out; omega⟩, ⟨by (with_reducible repeat (first | apply Kd.V_alloc | apply Kd.V_drewN | apply Kd.V_drew)); exact Kd.V_mono (Kd.V_far (p := ⟨gb344, 1, none⟩) (Kd.V_far (p := ⟨gb344, 0, none⟩) (Kd.V_mono HO369.out (fun k_ hk => (⟨hk, hk.2.2⟩ : _ ∧ k_ ≠ gb344))) (fun _ hk => hk.2) (.bool t366)) (fun _ hk => hk.2) (.slice Ao47 t367.length co47)) (fun _ hk => ⟨hk.1.1, ⟨hk.1.2.1, hk.1.2.2⟩⟩)⟩, ⟨bf BK342.out⟩, ⟨by (with_reducible repeat (first | refine blk_drewN ?_ _ | refine blk_drew ?_ | refine blk_alloc ?_ _)); refine blk_put (cs := #[.bool t366, .slice Ao39 x345001_3.length co39]) ?_ 1 _ rfl; (with_reducible repeat (first | refine blk_drewN ?_ _ | refine blk_drew ?_ | refine blk_alloc ?_ _)); refine blk_put (cs := #[.bool x345000_3, .slice Ao39 x345001_3.length co39]) ?_ 0 _ rfl; (with_reducible repeat (first | refine blk_drewN ?_ _ | refine blk_drew ?_ | refine blk_alloc ?_ _)); exact BK344.out⟩, ⟨bl⟩⟩

end Go.Proofs.Ytlbljdjbcbgnlaa.PX
namespace Go.Proofs.Ytlbljdjbcbgnlaa.PX
open Go.RowKit Go.Proofs.YtlbljdjbcbgnlaaW.PrintWords Go.Proofs.YtlbljdjbcbgnlaaW.PrintLast Go.Proofs.YtlbljdjbcbgnlaaW.PrintMore
attribute [local go_sem] max2_int min2_int max_two min_two max_three min_three max_four min_four   -- for this text's walks alone
set_option linter.unusedVariables false
set_option linter.unusedSimpArgs false

/-! ### maskref4_IsDec: function 35 -/
mutual
def maskref4_IsDec.j0 : Nat → ByteArray → Bool → Option (Bool)
 | 0, _, _ => none
 | k + 1, x0, x13 => if x13 = true then (if 1 ≤ (x0.size : Int) then (maskref4_IsDec.j1 k (x0.extract 1 x0.size)) else (none)) else (maskref4_IsDec.j1 k x0)
def maskref4_IsDec.j1 : Nat → ByteArray → Option (Bool)
 | 0, _ => none
 | k + 1, x0 => if (x0.size : Int) = 0 then (maskref4_IsDec.j2 k x0 true) else (if 0 < (x0.size : Int) then (maskref4_IsDec.j2 k x0 ((bt x0 0) == 48)) else (none))
def maskref4_IsDec.j2 : Nat → ByteArray → Bool → Option (Bool)
 | 0, _, _ => none
 | k + 1, x0, x23 => if x23 = true then (some false) else (maskref4_IsDec.l0 k x0 0)
def maskref4_IsDec.l0 : Nat → ByteArray → Int → Option (Bool)
 | 0, _, _ => none
 | k + 1, x0, x3 => if x3 < (x0.size : Int) then (if 0 ≤ x3 then (if (bt x0 x3) < 48 then (some false) else (if (bt x0 x3) > 57 then (some false) else (maskref4_IsDec.l0 k x0 (wrap64 (x3 + 1))))) else (none)) else (some true)
end
def maskref4_IsDec.f (k : Nat) (a0 : ByteArray) : Option (Bool) := if a0.toList = ([48] : List UInt8) then (some true) else (if (a0.size : Int) > 0 then (if 0 < (a0.size : Int) then (maskref4_IsDec.j0 k a0 ((bt a0 0) == 45)) else (none)) else (maskref4_IsDec.j0 k a0 false))
theorem maskref4_IsDec.mono_l : ∀ k, (∀ y0 y1, LeO (maskref4_IsDec.j0 k y0 y1) (maskref4_IsDec.j0 (k + 1) y0 y1)) ∧ (∀ y0, LeO (maskref4_IsDec.j1 k y0) (maskref4_IsDec.j1 (k + 1) y0)) ∧ (∀ y0 y1, LeO (maskref4_IsDec.j2 k y0 y1) (maskref4_IsDec.j2 (k + 1) y0 y1)) ∧ (∀ y0 y1, LeO (maskref4_IsDec.l0 k y0 y1) (maskref4_IsDec.l0 (k + 1) y0 y1))
 | 0 => ⟨fun _ _ r h => by simp [maskref4_IsDec.j0] at h, fun _ r h => by simp [maskref4_IsDec.j1] at h, fun _ _ r h => by simp [maskref4_IsDec.j2] at h, fun _ _ r h => by simp [maskref4_IsDec.l0] at h⟩
 | k + 1 => by
  obtain ⟨ih0, ih1, ih2, ih3⟩ := maskref4_IsDec.mono_l k
  refine ⟨?_, ?_, ?_, ?_⟩
  · intro y0 y1
    unfold maskref4_IsDec.j0
    repeat' first
    | (with_reducible exact ih0 _ _)
    | (with_reducible exact ih1 _)
    | (with_reducible exact ih2 _ _)
    | (with_reducible exact ih3 _ _)
    | (with_reducible exact LeO.refl _)
    | (with_reducible exact LeO.none _)
    | (with_reducible refine LeO.ite ?_ ?_)
    | (with_reducible refine LeO.bind ?_ (fun _ => ?_))
    | exact ih0 _ _
    | exact ih1 _
    | exact ih2 _ _
    | exact ih3 _ _
    | exact LeO.none _
    | refine LeO.ite ?_ ?_
    | refine LeO.bind ?_ (fun _ => ?_)
  · intro y0
    unfold maskref4_IsDec.j1
    repeat' first
    | (with_reducible exact ih0 _ _)
    | (with_reducible exact ih1 _)
    | (with_reducible exact ih2 _ _)
    | (with_reducible exact ih3 _ _)
    | (with_reducible exact LeO.refl _)
    | (with_reducible exact LeO.none _)
    | (with_reducible refine LeO.ite ?_ ?_)
    | (with_reducible refine LeO.bind ?_ (fun _ => ?_))
    | exact ih0 _ _
    | exact ih1 _
    | exact ih2 _ _
    | exact ih3 _ _
    | exact LeO.none _
    | refine LeO.ite ?_ ?_
    | refine LeO.bind ?_ (fun _ => ?_)
  · intro y0 y1
    unfold maskref4_IsDec.j2
    repeat' first
    | (with_reducible exact ih0 _ _)
    | (with_reducible exact ih1 _)
    | (with_reducible exact ih2 _ _)
    | (with_reducible exact ih3 _ _)
    | (with_reducible exact LeO.refl _)
    | (with_reducible exact LeO.none _)
    | (with_reducible refine LeO.ite ?_ ?_)
    | (with_reducible refine LeO.bind ?_ (fun _ => ?_))
    | exact ih0 _ _
    | exact ih1 _
    | exact ih2 _ _
    | exact ih3 _ _
    | exact LeO.none _
    | refine LeO.ite ?_ ?_
    | refine LeO.bind ?_ (fun _ => ?_)
  · intro y0 y1
    unfold maskref4_IsDec.l0
    repeat' first
    | (with_reducible exact ih0 _ _)
    | (with_reducible exact ih1 _)
    | (with_reducible exact ih2 _ _)
    | (with_reducible exact ih3 _ _)
    | (with_reducible exact LeO.refl _)
    | (with_reducible exact LeO.none _)
    | (with_reducible refine LeO.ite ?_ ?_)
    | (with_reducible refine LeO.bind ?_ (fun _ => ?_))
    | exact ih0 _ _
    | exact ih1 _
    | exact ih2 _ _
    | exact ih3 _ _
    | exact LeO.none _
    | refine LeO.ite ?_ ?_
    | refine LeO.bind ?_ (fun _ => ?_)
theorem maskref4_IsDec.mono : ∀ a0 k, LeO (maskref4_IsDec.f k a0) (maskref4_IsDec.f (k + 1) a0) := by
 intro a0 k
 obtain ⟨ih0, ih1, ih2, ih3⟩ := maskref4_IsDec.mono_l k
 unfold maskref4_IsDec.f
 repeat' first
  | (with_reducible exact ih0 _ _)
  | (with_reducible exact ih1 _)
  | (with_reducible exact ih2 _ _)
  | (with_reducible exact ih3 _ _)
  | (with_reducible exact LeO.refl _)
  | (with_reducible exact LeO.none _)
  | (with_reducible refine LeO.ite ?_ ?_)
  | (with_reducible refine LeO.bind ?_ (fun _ => ?_))
  | exact ih0 _ _
  | exact ih1 _
  | exact ih2 _ _
  | exact ih3 _ _
  | exact LeO.none _
  | refine LeO.ite ?_ ?_
  | refine LeO.bind ?_ (fun _ => ?_)
set_option maxHeartbeats 8000000 in
set_option maxRecDepth 100000 in
theorem maskref4_IsDec.calls (k : Nat) (a0 : ByteArray) (r : Bool) (w : World) (h : maskref4_IsDec.f k a0 = some r) :
 Calls Try.prog 35 #[.string a0] w fun e w' => e = .returned (.bool r) ∧ Drawn0 w w' := by
 have H : (if a0.toList = ([48] : List UInt8) then (some true) else (if (a0.size : Int) > 0 then (if 0 < (a0.size : Int) then (maskref4_IsDec.j0 k a0 ((bt a0 0) == 45)) else (none)) else (maskref4_IsDec.j0 k a0 false))) = some r := h
 clear h
 by_cases c2 : a0.toList = ([48] : List UInt8)
 · rw [if_pos c2] at H
   have c2b0 : (a0.toList == ([48] : List UInt8)) = true := beq_iff_eq.mpr c2
   clear c2
   obtain rfl := Option.some.inj H
   go_enter Try.func35, Try.ntmps35
   go_wp2
   go_ret
   exact ⟨by first | rfl | (simp; done) | (simp [*]; done), by repeat (first | exact Drawn0.refl _ | apply Drawn0.step)⟩
 · rw [if_neg c2] at H
   have c2b0 : (a0.toList == ([48] : List UInt8)) = false := beq_eq_false_iff_ne.mpr c2
   have c2b1 : (a0.toList != ([48] : List UInt8)) = true := bne_iff_ne.mpr c2
   have HC3 := Aside0.mk H
   clear H
   go_enter Try.func35, Try.ntmps35
   go_upto_region 3 with (fail)
   go_cut [13] (fun v13 wc => ∃ (kq : Nat) (x13_2 : Bool), v13 = .bool x13_2 ∧ Aside0 (maskref4_IsDec.j0 kq a0 x13_2 = some r) ∧ Aside0 (kq ≤ k) ∧ Drawn0 w wc)
   case first =>
    have H := HC3.out
    clear HC3
    by_cases c4 : (a0.size : Int) > 0
    · rw [if_pos c4] at H
      have c4b0 : decide (0 < (a0.size : Int)) = true := decide_eq_true c4
      have c4b1 : decide (0 < a0.size) = true := decide_eq_true (by omega)
      clear c4
      (first | rw [c4b0] | (simp only [i64_w, i32_w]; rw [c4b0]) | skip)
      by_cases c5 : 0 < (a0.size : Int)
      · rw [if_pos c5] at H
        have c5b0 : decide (0 < (a0.size : Int)) = true := decide_eq_true c5
        clear c5
        have H' := Aside0.mk H
        clear H
        have p6 : 0 ≤ (0 : Int) := (by omega)
        have q6 : 0 < a0.size := (by have : (0 : Int) < (a0.size : Int) := of_decide_eq_true (by first | (with_reducible assumption) | assumption); omega)
        have hx6 : ∀ h : 0 < a0.size, ((a0[0]'h).toNat : Int) = bt a0 0 := bt_at a0 0
        clear p6
        replace q6 := eq_true q6
        go_wp2
        go_meet
        case rel => exact ⟨_, (((bt a0 0) == 45)), (by first | rfl | (simp; done) | (simp [*]; done)), H', ⟨by first | omega | exact Nat.le_refl _⟩, by repeat (first | exact Drawn0.refl _ | apply Drawn0.step)⟩
      · rw [if_neg c5] at H
        exact absurd H (by simp)
    · rw [if_neg c4] at H
      have c4b0 : decide (0 < (a0.size : Int)) = false := decide_eq_false c4
      have c4b1 : decide (0 < a0.size) = false := decide_eq_false (by omega)
      clear c4
      (first | rw [c4b0] | (simp only [i64_w, i32_w]; rw [c4b0]) | skip)
      have H' := Aside0.mk H
      clear H
      go_wp2
      go_meet
      case rel => exact ⟨_, (false), (by first | rfl | (simp; done) | (simp [*]; done)), H', ⟨by first | omega | exact Nat.le_refl _⟩, by repeat (first | exact Drawn0.refl _ | apply Drawn0.step)⟩
   case rest =>
    clear HC3
    clear c2 c2b0 c2b1
    obtain ⟨kq, x13_2, rfl, HA, HJ2, ⟨mc2, rfl⟩⟩ := hcut
    cases kq with
    | zero => exact absurd HA.out (by simp [maskref4_IsDec.j0])
    | succ kj2 =>
     have H := HA.out
     clear HA
     simp only [maskref4_IsDec.j0] at H
     have HC7 := Aside0.mk H
     clear H
     go_upto_if 13 with (fail)
     go_cut [0] (fun v0 wc => ∃ (kq : Nat) (x0_6 : ByteArray), v0 = .string x0_6 ∧ Aside0 (maskref4_IsDec.j1 kq x0_6 = some r) ∧ Aside0 (kq ≤ kj2) ∧ Drawn0 w wc)
     case first =>
      have H := HC7.out
      clear HC7
      by_cases c8 : x13_2 = true
      · subst c8
        have H1 : (if 1 ≤ (a0.size : Int) then (maskref4_IsDec.j1 kj2 (a0.extract 1 a0.size)) else (none)) = some r := by rw [if_pos rfl] at H; exact H
        clear H
        have H := H1
        clear H1
        by_cases c9 : 1 ≤ (a0.size : Int)
        · rw [if_pos c9] at H
          have c9b0 := eq_true c9
          clear c9
          have H' := Aside0.mk H
          clear H
          go_wp2
          go_meet
          case rel => exact ⟨_, (a0.extract 1 a0.size), (by first | rfl | (simp; done) | (simp [*]; done)), H', ⟨by have := HJ2.out; first | omega | exact Nat.le_refl _⟩, by repeat (first | exact Drawn0.refl _ | apply Drawn0.step)⟩
        · rw [if_neg c9] at H
          exact absurd H (by simp)
      · replace c8 := Bool.eq_false_iff.mpr c8
        subst c8
        have H1 : (maskref4_IsDec.j1 kj2 a0) = some r := by rw [if_neg (show ¬ (false = true) by decide)] at H; exact H
        clear H
        have H := H1
        clear H1
        have H' := Aside0.mk H
        clear H
        go_wp2
        go_meet
        case rel => exact ⟨_, (a0), (by first | rfl | (simp; done) | (simp [*]; done)), H', ⟨by have := HJ2.out; first | omega | exact Nat.le_refl _⟩, by repeat (first | exact Drawn0.refl _ | apply Drawn0.step)⟩
     case rest =>
      clear HC7
      obtain ⟨kq, x0_6, rfl, HA, HJ6, ⟨mc6, rfl⟩⟩ := hcut
      cases kq with
      | zero => exact absurd HA.out (by simp [maskref4_IsDec.j1])
      | succ kj6 =>
       have H := HA.out
       clear HA
       simp only [maskref4_IsDec.j1] at H
       have HC10 := Aside0.mk H
       clear H
       go_upto_region 5 with (fail)
       go_cut [23] (fun v23 wc => ∃ (kq : Nat) (x23_9 : Bool), v23 = .bool x23_9 ∧ Aside0 (maskref4_IsDec.j2 kq x0_6 x23_9 = some r) ∧ Aside0 (kq ≤ kj6) ∧ Drawn0 w wc)
       case first =>
        have H := HC10.out
        clear HC10
        by_cases c11 : (x0_6.size : Int) = 0
        · rw [if_pos c11] at H
          have c11b0 : ((x0_6.size : Int) == 0) = true := beq_iff_eq.mpr c11
          clear c11
          (first | rw [c11b0] | (simp only [i64_w, i32_w]; rw [c11b0]) | skip)
          have H' := Aside0.mk H
          clear H
          go_wp2
          go_meet
          case rel => exact ⟨_, (true), (by first | rfl | (simp; done) | (simp [*]; done)), H', ⟨by have := HJ2.out; have := HJ6.out; first | omega | exact Nat.le_refl _⟩, by repeat (first | exact Drawn0.refl _ | apply Drawn0.step)⟩
        · rw [if_neg c11] at H
          have c11b0 : ((x0_6.size : Int) == 0) = false := beq_eq_false_iff_ne.mpr c11
          have c11b1 : ((x0_6.size : Int) != 0) = true := bne_iff_ne.mpr c11
          (first | rw [c11b0] | (simp only [i64_w, i32_w]; rw [c11b0]) | skip)
          by_cases c12 : 0 < (x0_6.size : Int)
          · rw [if_pos c12] at H
            have c12b0 : decide (0 < (x0_6.size : Int)) = true := decide_eq_true c12
            clear c12
            have H' := Aside0.mk H
            clear H
            have p13 : 0 ≤ (0 : Int) := (by omega)
            have q13 : 0 < x0_6.size := (by have : (0 : Int) < (x0_6.size : Int) := of_decide_eq_true (by first | (with_reducible assumption) | assumption); omega)
            have hx13 : ∀ h : 0 < x0_6.size, ((x0_6[0]'h).toNat : Int) = bt x0_6 0 := bt_at x0_6 0
            clear p13
            replace q13 := eq_true q13
            go_wp2
            go_meet
            case rel => exact ⟨_, (((bt x0_6 0) == 48)), (by first | rfl | (simp; done) | (simp [*]; done)), H', ⟨by have := HJ2.out; have := HJ6.out; first | omega | exact Nat.le_refl _⟩, by repeat (first | exact Drawn0.refl _ | apply Drawn0.step)⟩
          · rw [if_neg c12] at H
            exact absurd H (by simp)
       case rest =>
        clear HC10
        obtain ⟨kq, x23_9, rfl, HA, HJ9, ⟨mc9, rfl⟩⟩ := hcut
        cases kq with
        | zero => exact absurd HA.out (by simp [maskref4_IsDec.j2])
        | succ kj9 =>
         have H := HA.out
         clear HA
         simp only [maskref4_IsDec.j2] at H
         by_cases c14 : x23_9 = true
         · subst c14
           have H1 : (some false) = some r := by rw [if_pos rfl] at H; exact H
           clear H
           have H := H1
           clear H1
           obtain rfl := Option.some.inj H
           go_wp2
           go_ret
           exact ⟨by first | rfl | (simp; done) | (simp [*]; done), by repeat (first | exact Drawn0.refl _ | apply Drawn0.step)⟩
         · replace c14 := Bool.eq_false_iff.mpr c14
           subst c14
           have H1 : (maskref4_IsDec.l0 kj9 x0_6 0) = some r := by rw [if_neg (show ¬ (false = true) by decide)] at H; exact H
           clear H
           have H := H1
           clear H1
           have H' := Aside0.mk H
           clear H
           go_wp2
           go_loopg [3] kj9 (fun kq v3 w' => ∃ (x3_4 : Int), v3 = .int .i64 x3_4 ∧ Aside0 (maskref4_IsDec.l0 kq x0_6 x3_4 = some r) ∧ Aside0 (kq ≤ kj9) ∧ Drawn0 w w')
           case atStart => exact ⟨(0), (by first | rfl | (simp; done) | (simp [*]; done)), H', ⟨Nat.le_refl _⟩, by repeat (first | exact Drawn0.refl _ | apply Drawn0.step)⟩
           case round =>
            clear H'
            obtain ⟨x3_4, rfl, HA, HK4, ⟨m4, rfl⟩⟩ := hrel
            cases gk with
            | zero => exact absurd HA.out (by simp [maskref4_IsDec.l0])
            | succ k4 =>
             have H := HA.out
             clear HA
             simp only [maskref4_IsDec.l0] at H
             by_cases c15 : x3_4 < (x0_6.size : Int)
             · rw [if_pos c15] at H
               have c15b0 : decide (x3_4 < (x0_6.size : Int)) = true := decide_eq_true c15
               clear c15
               by_cases c16 : 0 ≤ x3_4
               · rw [if_pos c16] at H
                 have c16b0 : decide (0 ≤ x3_4) = true := decide_eq_true c16
                 clear c16
                 by_cases c18 : (bt x0_6 x3_4) < 48
                 · rw [if_pos c18] at H
                   have c18b0 : decide ((bt x0_6 x3_4) < 48) = true := decide_eq_true c18
                   clear c18
                   obtain rfl := Option.some.inj H
                   have p17 : 0 ≤ (x3_4 : Int) := of_decide_eq_true (by first | (with_reducible assumption) | assumption)
                   have q17 : x3_4 < (x0_6.size : Int) := of_decide_eq_true (by first | (with_reducible assumption) | assumption)
                   have hx17 := bt_at x0_6 x3_4
                   replace p17 := eq_true p17
                   replace q17 := eq_true q17
                   go_wp2
                   go_ret
                   exact ⟨by first | rfl | (simp; done) | (simp [*]; done), by repeat (first | exact Drawn0.refl _ | apply Drawn0.step)⟩
                 · rw [if_neg c18] at H
                   have c18b0 : decide ((bt x0_6 x3_4) < 48) = false := decide_eq_false c18
                   clear c18
                   by_cases c20 : (bt x0_6 x3_4) > 57
                   · rw [if_pos c20] at H
                     have c20b0 : decide (57 < (bt x0_6 x3_4)) = true := decide_eq_true c20
                     clear c20
                     obtain rfl := Option.some.inj H
                     have p17 : 0 ≤ (x3_4 : Int) := of_decide_eq_true (by first | (with_reducible assumption) | assumption)
                     have q17 : x3_4 < (x0_6.size : Int) := of_decide_eq_true (by first | (with_reducible assumption) | assumption)
                     have hx17 := bt_at x0_6 x3_4
                     replace p17 := eq_true p17
                     replace q17 := eq_true q17
                     have p19 : 0 ≤ (x3_4 : Int) := of_decide_eq_true (by first | (with_reducible assumption) | assumption)
                     have q19 : x3_4 < (x0_6.size : Int) := of_decide_eq_true (by first | (with_reducible assumption) | assumption)
                     replace p19 := eq_true p19
                     replace q19 := eq_true q19
                     go_wp2
                     go_ret
                     exact ⟨by first | rfl | (simp; done) | (simp [*]; done), by repeat (first | exact Drawn0.refl _ | apply Drawn0.step)⟩
                   · rw [if_neg c20] at H
                     have c20b0 : decide (57 < (bt x0_6 x3_4)) = false := decide_eq_false c20
                     clear c20
                     have H' := Aside0.mk H
                     clear H
                     have p17 : 0 ≤ (x3_4 : Int) := of_decide_eq_true (by first | (with_reducible assumption) | assumption)
                     have q17 : x3_4 < (x0_6.size : Int) := of_decide_eq_true (by first | (with_reducible assumption) | assumption)
                     have hx17 := bt_at x0_6 x3_4
                     replace p17 := eq_true p17
                     replace q17 := eq_true q17
                     have p19 : 0 ≤ (x3_4 : Int) := of_decide_eq_true (by first | (with_reducible assumption) | assumption)
                     have q19 : x3_4 < (x0_6.size : Int) := of_decide_eq_true (by first | (with_reducible assumption) | assumption)
                     replace p19 := eq_true p19
                     replace q19 := eq_true q19
                     go_wp2
                     go_roundg k4
                     case measure => have := HJ2.out; have := HJ6.out; have := HJ9.out; have := HK4.out; omega
                     case rel => exact ⟨(wrap64 (x3_4 + 1)), (by first | rfl | (simp; done) | (simp [*]; done)), H', ⟨by have := HJ2.out; have := HJ6.out; have := HJ9.out; have := HK4.out; omega⟩, by repeat (first | exact Drawn0.refl _ | apply Drawn0.step)⟩
               · rw [if_neg c16] at H
                 exact absurd H (by simp)
             · rw [if_neg c15] at H
               have c15b0 : decide (x3_4 < (x0_6.size : Int)) = false := decide_eq_false c15
               clear c15
               obtain rfl := Option.some.inj H
               go_wp2
               go_ret
               exact ⟨by first | rfl | (simp; done) | (simp [*]; done), by repeat (first | exact Drawn0.refl _ | apply Drawn0.step)⟩

end Go.Proofs.Ytlbljdjbcbgnlaa.PX
namespace Go.Proofs.Ytlbljdjbcbgnlaa.PX
open Go.RowKit Go.Proofs.YtlbljdjbcbgnlaaW.PrintWords Go.Proofs.YtlbljdjbcbgnlaaW.PrintLast Go.Proofs.YtlbljdjbcbgnlaaW.PrintMore
attribute [local go_sem] max2_int min2_int max_two min_two max_three min_three max_four min_four   -- for this text's walks alone
set_option linter.unusedVariables false
set_option linter.unusedSimpArgs false

/-! ### maskref4_DecOf: function 36 -/
mutual
def maskref4_DecOf.j0 : Nat → ByteArray → Bool → Option (Bool × List Int)
 | 0, _, _ => none
 | k + 1, x0, x3 => maskref4_DecOf.l0 k x0 x3 ([] : List Int) (wrap64 ((x0.size : Int) - 1))
def maskref4_DecOf.l0 : Nat → ByteArray → Bool → List Int → Int → Option (Bool × List Int)
 | 0, _, _, _, _ => none
 | k + 1, x0, x3, x4, x5 => if x5 ≥ 0 then (if 0 ≤ x5 then (if x5 < (x0.size : Int) then (if x4.length < 17592186044416 then (maskref4_DecOf.l0 k x0 x3 (x4 ++ [((bt x0 x5) - 48) % 256]) (wrap64 (x5 - 1))) else (none)) else (none)) else (none)) else ((maskref4_trim.f x3 x4).bind fun bt374 => (some (bt374.1, bt374.2)))
end
def maskref4_DecOf.f (k : Nat) (a0 : ByteArray) : Option (Bool × List Int) := if 0 < (a0.size : Int) then (if (bt a0 0) = 45 then (if 1 ≤ (a0.size : Int) then (maskref4_DecOf.j0 k (a0.extract 1 a0.size) ((bt a0 0) == 45)) else (none)) else (maskref4_DecOf.j0 k a0 ((bt a0 0) == 45))) else (none)
theorem maskref4_DecOf.mono_l : ∀ k, (∀ y0 y1, LeO (maskref4_DecOf.j0 k y0 y1) (maskref4_DecOf.j0 (k + 1) y0 y1)) ∧ (∀ y0 y1 y2 y3, LeO (maskref4_DecOf.l0 k y0 y1 y2 y3) (maskref4_DecOf.l0 (k + 1) y0 y1 y2 y3))
 | 0 => ⟨fun _ _ r h => by simp [maskref4_DecOf.j0] at h, fun _ _ _ _ r h => by simp [maskref4_DecOf.l0] at h⟩
 | k + 1 => by
  obtain ⟨ih0, ih1⟩ := maskref4_DecOf.mono_l k
  refine ⟨?_, ?_⟩
  · intro y0 y1
    unfold maskref4_DecOf.j0
    repeat' first
    | (with_reducible exact ih1 _ _ _ _)
    | (with_reducible exact LeO.refl _)
    | (with_reducible exact LeO.none _)
    | (with_reducible refine LeO.ite ?_ ?_)
    | (with_reducible refine LeO.bind ?_ (fun _ => ?_))
  · intro y0 y1 y2 y3
    unfold maskref4_DecOf.l0
    repeat' first
    | (with_reducible exact ih1 _ _ _ _)
    | (with_reducible exact LeO.refl _)
    | (with_reducible exact LeO.none _)
    | (with_reducible refine LeO.ite ?_ ?_)
    | (with_reducible refine LeO.bind ?_ (fun _ => ?_))
theorem maskref4_DecOf.mono : ∀ a0 k, LeO (maskref4_DecOf.f k a0) (maskref4_DecOf.f (k + 1) a0) := by
 intro a0 k
 obtain ⟨ih0, ih1⟩ := maskref4_DecOf.mono_l k
 unfold maskref4_DecOf.f
 repeat' first
  | (with_reducible exact ih0 _ _)
  | (with_reducible exact LeO.refl _)
  | (with_reducible exact LeO.none _)
  | (with_reducible refine LeO.ite ?_ ?_)
  | (with_reducible refine LeO.bind ?_ (fun _ => ?_))
set_option maxHeartbeats 8000000 in
set_option maxRecDepth 100000 in
theorem maskref4_DecOf.calls (k : Nat) (a0 : ByteArray) (r1 : Bool) (r2 : List Int) (w : World) (h : maskref4_DecOf.f k a0 = some (r1, r2)) :
 Calls Try.prog 36 #[.string a0] w fun e w' => ∃ v1_ : Value, e = .returned (.agg #[.bool r1, v1_]) ∧ Kd.V (Kd.int .i64) 3 w' w.heap.size (fun k_ => (w.heap.size ≤ k_)) v1_ r2 ∧ Below w.heap.size w w' := by
 have HB := Aside0.mk (Below.refl w.heap.size w)
 have H : (if 0 < (a0.size : Int) then (if (bt a0 0) = 45 then (if 1 ≤ (a0.size : Int) then (maskref4_DecOf.j0 k (a0.extract 1 a0.size) ((bt a0 0) == 45)) else (none)) else (maskref4_DecOf.j0 k a0 ((bt a0 0) == 45))) else (none)) = some (r1, r2) := h
 clear h
 by_cases c2 : 0 < (a0.size : Int)
 rotate_left
 · rw [if_neg c2] at H
   exact absurd H (by simp)
 rw [if_pos c2] at H
 have c2b0 : decide (0 < (a0.size : Int)) = true := decide_eq_true c2
 have c2b1 : decide (0 < a0.size) = true := decide_eq_true (by omega)
 clear c2
 have HC4 := Aside0.mk H
 clear H
 go_enter Try.func36, Try.ntmps36
 go_upto_if 9 with (first | ((with_reducible refine gate_dst (N := 2) rfl ?_); refine box_event ?hg (N := 2) ?hd (cs := #[.bool false, .slice none 0 0]) (t := 36) ?hr ?_; (case hd => rfl); (case hg => rfl); (case hr => first | (go_simp; done) | (go_simp; rfl)); intro gb370 hg w5 hbox hb; have BK370 := Aside0.mk (hbox); have GE370 := Aside0.mk (ge (w := w) hg); replace HB := Aside0.mk (below_step bl hb); clear hb hbox hg; have p3 : 0 ≤ (0 : Int) := (by omega); have q3 : 0 < a0.size := (by have : (0 : Int) < (a0.size : Int) := of_decide_eq_true (by first | (with_reducible assumption) | assumption); omega); have hx3 : ∀ h : 0 < a0.size, ((a0[0]'h).toNat : Int) = bt a0 0 := bt_at a0 0; clear p3; have qi3 : (0 < (a0.size : Int)) = True := eq_true (of_decide_eq_true (by first | (with_reducible assumption) | assumption)); replace q3 := eq_true q3))
 (try simp only [Act.put, List.setIfInBounds_toArray, List.set_cons_zero, List.set_cons_succ])
 go_cut [0, 3] (fun v0 v3 wc => ∃ (kq : Nat) (x0_3 : ByteArray), v0 = .string x0_3 ∧ v3 = .bool (bt a0 0 == 45) ∧ Aside0 (maskref4_DecOf.j0 kq x0_3 ((bt a0 0) == 45) = some (r1, r2)) ∧ Aside0 (kq ≤ k) ∧ Aside0 (wc.heap[gb370]? = some (.cells #[.bool false, (.slice none 0 0)] 36 (0, 0))) ∧ Aside0 (Below w.heap.size w wc))
 case first =>
  have H := HC4.out
  clear HC4
  by_cases c6 : (bt a0 0) = 45
  rotate_left
  · rw [if_neg c6] at H
    have c6b0 : ((bt a0 0) == 45) = false := beq_eq_false_iff_ne.mpr c6
    (first | rw [c6b0] | (simp only [i64_w, i32_w]; rw [c6b0]) | skip)
    have H' := Aside0.mk H
    clear H
    go_wp2
    go_meet
    case rel => exact ⟨_, (a0), (by first | rfl | (simp; done) | (simp [*]; done)), (by rw [c6b0]), H', ⟨by first | omega | exact Nat.le_refl _⟩, ⟨bk BK370.out⟩, ⟨bl⟩⟩
  rw [if_pos c6] at H
  have c6b0 : ((bt a0 0) == 45) = true := beq_iff_eq.mpr c6
  have c6b1 : ((bt a0 0) != 45) = false := bne_eq_false_iff_eq.mpr c6
  clear c6
  (first | rw [c6b0] | (simp only [i64_w, i32_w]; rw [c6b0]) | skip)
  by_cases c7 : 1 ≤ (a0.size : Int)
  rotate_left
  · rw [if_neg c7] at H
    exact absurd H (by simp)
  rw [if_pos c7] at H
  have c7b0 := eq_true c7
  clear c7
  have H' := Aside0.mk H
  clear H
  go_wp2
  go_meet
  case rel => exact ⟨_, (a0.extract 1 a0.size), (by first | rfl | (simp; done) | (simp [*]; done)), (by rw [c6b0]), H', ⟨by first | omega | exact Nat.le_refl _⟩, ⟨bk BK370.out⟩, ⟨bl⟩⟩
 clear HC4
 clear c2b0 c2b1 q3 hx3 qi3
 obtain ⟨kq, x0_3, rfl, rfl, HA, HJ3, BK370, HB⟩ := hcut
 cases kq with
 | zero => exact absurd HA.out (by simp [maskref4_DecOf.j0])
 | succ kj3 =>
  have H := HA.out
  clear HA
  simp only [maskref4_DecOf.j0] at H
  have H' := Aside0.mk H
  clear H
  go_wp2
  go_loopg [4, 5] kj3 (fun kq v4 v5 w' => ∃ (x4_2 : List Int) (x5_2 : Int), v5 = .int .i64 x5_2 ∧ Aside0 (maskref4_DecOf.l0 kq x0_3 ((bt a0 0) == 45) x4_2 x5_2 = some (r1, r2)) ∧ Aside0 (kq ≤ kj3) ∧ Aside0 (Kd.R (Kd.int .i64) 3 w' w.heap.size (fun k_ => (w.heap.size ≤ k_)) v4 x4_2) ∧ Aside0 (w'.heap[gb370]? = some (.cells #[.bool false, (.slice none 0 0)] 36 (0, 0))) ∧ Aside0 (Below w.heap.size w w'))
  case atStart => exact ⟨(([] : List Int)), (wrap64 ((x0_3.size : Int) - 1)), (by first | rfl | (simp; done) | (simp [*]; done)), H', ⟨Nat.le_refl _⟩, ⟨by first | exact Kd.R_nil _ _ _ _ _ | exact Kd.N_nil _ _ _ _ _ | exact Kd.V_nil _ _ _ _ _ | exact Kd.Q_nil _ _ _ _ _ | exact Kd.S_nil _ _ _ _ _⟩, ⟨bk BK370.out⟩, ⟨bl⟩⟩
  clear H'
  obtain ⟨x4_2, x5_2, rfl, HA, HK2, HO_4, BK370, HB⟩ := hrel
  cases gk with
  | zero => exact absurd HA.out (by simp [maskref4_DecOf.l0])
  | succ k2 =>
   have H := HA.out
   clear HA
   simp only [maskref4_DecOf.l0] at H
   by_cases c8 : x5_2 ≥ 0
   rotate_left
   · rw [if_neg c8] at H
     have c8b0 : decide (0 ≤ x5_2) = false := decide_eq_false c8
     clear c8
     replace H := Option.bind_eq_some_iff.mp H
     obtain ⟨⟨t374, t375⟩, A140, H⟩ := H
     replace H : (some (t374, t375)) = some (r1, r2) := H
     have A14 := Aside0.mk A140
     clear A140
     simp only [Option.some.injEq, Prod.mk.injEq] at H
     obtain ⟨rfl, rfl⟩ := H
     obtain ⟨Ao15, co15, eo15⟩ := Kd.R_slice HO_4.out
     subst eo15
     go_wp2_with ((with_reducible refine gate_callee (f := 66) rfl ?_); refine goesL_ (some 29) rfl rfl Try.func66 (by kernel_rfl) rfl #[.bool ((bt a0 0) == 45), .slice Ao15 x4_2.length co15] rfl (by (try simp only [List.map_toArray, List.map_cons, List.map_nil]); first | done | rfl | (simp only [List.length_drop, List.length_take]; rfl)) ?_; (with_reducible refine (maskref4_trim.calls ((bt a0 0) == 45) (fun k_ => some k_ = (.slice Ao15 x4_2.length co15 : Value).ownBlock) _ _ x4_2 t374 t375 _ ?side1 A14.out).mono ?_); (case side1 => exact Kd.R_V (Kd.R_tight rfl (Kd.R_types (HO_4.out) BK370.out (by decide)))); rintro e w16 ⟨v376, rfl, ho0, hb⟩; refine ⟨_, rfl, ?_⟩; have HO377 := Aside0.mk (Kd.V_lower (Kd.V_mono (ok' := fun k_ => (w.heap.size ≤ k_) ∧ k_ ≠ gb370) ho0 (fun k_ hk_ => ⟨Or.elim hk_ (fun hs_ => ((Kd.R_types (HO_4.out) BK370.out (by decide)).1 k_ hs_.symm).1) (fun hn_ => (Nat.le_trans (below_size bl) hn_)), Or.elim hk_ (fun hs_ => ((Kd.R_types (HO_4.out) BK370.out (by decide)).1 k_ hs_.symm).2) (fun hn_ => (Kd.freshB (g := gb370) (o := .cells #[.bool false, .slice none 0 0] 36 (0, 0)) (bk BK370.out) k_ hn_))⟩)) (below_size bl)); replace HO_4 := Aside0.mk (rb HO_4.out hb); replace BK370 := Aside0.mk (bb BK370.out hb); replace HB := Aside0.mk (below_step bl hb); (try clear hb); (try clear ho0); obtain ⟨hcz17_0, hcz17_1, hfz17_0, hfz17_1⟩ := bz2 BK370.out; obtain ⟨Ao18, co18, eo18⟩ := Kd.V_slice HO377.out; subst eo18)
     refine bodyPost_ret (results_cell_row rfl _ _ gb370 36 #[.bool t374, .slice Ao18 t375.length co18] (0, 0) _ rfl (by (with_reducible repeat (first | refine blk_drewN ?_ _ | refine blk_drew ?_ | refine blk_alloc ?_ _)); refine blk_put (cs := #[.bool t374, .slice none 0 0]) ?_ 1 _ rfl; (with_reducible repeat (first | refine blk_drewN ?_ _ | refine blk_drew ?_ | refine blk_alloc ?_ _)); refine blk_put (cs := #[.bool false, .slice none 0 0]) ?_ 0 _ rfl; (with_reducible repeat (first | refine blk_drewN ?_ _ | refine blk_drew ?_ | refine blk_alloc ?_ _)); exact BK370.out) Try.underlying36 rfl (by kernel_rfl)) rfl ?_
     exact ⟨_, by first | rfl | (simp [errW_none, errW_some] <;> rfl) | (simp [*, errW_none, errW_some] <;> rfl), by (with_reducible repeat (first | apply Kd.V_alloc | apply Kd.V_drewN | apply Kd.V_drew)); exact Kd.V_mono (Kd.V_far (p := ⟨gb370, 1, none⟩) (Kd.V_far (p := ⟨gb370, 0, none⟩) (Kd.V_mono HO377.out (fun k_ hk => (⟨hk, hk.2⟩ : _ ∧ k_ ≠ gb370))) (fun _ hk => hk.2) (.bool t374)) (fun _ hk => hk.2) (.slice Ao18 t375.length co18)) (fun _ hk => hk.1.1), bl⟩
   rw [if_pos c8] at H
   have c8b0 : decide (0 ≤ x5_2) = true := decide_eq_true c8
   clear c8
   by_cases c9 : 0 ≤ x5_2
   rotate_left
   · rw [if_neg c9] at H
     exact absurd H (by simp)
   rw [if_pos c9] at H
   have c9b0 : decide (0 ≤ x5_2) = true := decide_eq_true c9
   clear c9
   by_cases c10 : x5_2 < (x0_3.size : Int)
   rotate_left
   · rw [if_neg c10] at H
     exact absurd H (by simp)
   rw [if_pos c10] at H
   have c10b0 : decide (x5_2 < (x0_3.size : Int)) = true := decide_eq_true c10
   clear c10
   by_cases c12 : x4_2.length < 17592186044416
   rotate_left
   · rw [if_neg c12] at H
     exact absurd H (by simp)
   rw [if_pos c12] at H
   have LMc12 := Aside0.mk c12
   clear c12
   obtain ⟨y371, hy371⟩ : ∃ y_ : List Int, y_ = (x4_2 ++ [((bt x0_3 x5_2) - 48) % 256]) := ⟨_, rfl⟩
   replace H : (maskref4_DecOf.l0 k2 x0_3 ((bt a0 0) == 45) y371 (wrap64 (x5_2 - 1))) = some (r1, r2) := by first | (rw [hy371]; with_reducible exact H) | (have H2_ := (Option.bind_some _ _).symm.trans H; rw [hy371]; with_reducible exact H2_) | (have H2_ := (Option.bind_some _ _).symm.trans H; with_reducible exact H2_) | with_reducible exact H | (rw [hy371]; exact H) | exact H
   have Ny371 := Aside0.mk hy371
   clear hy371
   have H' := Aside0.mk H
   clear H
   have p11 : 0 ≤ (x5_2 : Int) := of_decide_eq_true (by first | (with_reducible assumption) | assumption)
   have q11 : x5_2 < (x0_3.size : Int) := of_decide_eq_true (by first | (with_reducible assumption) | assumption)
   have hx11 := bt_at x0_3 x5_2
   replace p11 := eq_true p11
   replace q11 := eq_true q11
   go_wp2_with ((with_reducible refine gate_builtin (b := .append) (xs := #[.tmp 19, .tmp 25]) rfl ?_); at_builtin; refine Kd.R_append (Kd.int .i64) (w0 := w) w.heap.size rfl (.tmp 19) (.tmp 25) 34 3 (.int .i64 0) 8 rfl Try.underlying34 info3 rfl (by decide) (by omega) u4 x4_2 (((bt x0_3 x5_2) - 48) % 256) [.int .i64 (((bt x0_3 x5_2) - 48) % 256)] (fun k_ => (w.heap.size ≤ k_)) (fun _ => False) rfl rfl ?aP (fun _ hk => hk.elim) ?aF ?aO ?aB ?aS ?aL ?_; (case aP => exact rfl); (case aB => exact bl); (case aF => exact (fun k_ hk => (Nat.le_trans (below_size bl) hk))); (case aO => exact (by (with_reducible repeat (first | apply Kd.R_alloc | apply Kd.R_drewN | apply Kd.R_drew)); exact HO_4.out)); (case aS => exact (below_size bl)); (case aL => have := LMc12.out; omega); intro v372 w13 ho hb hg hat; rw [← Ny371.out] at ho; replace BK370 := Aside0.mk (blk_grown (bk BK370.out) hg (Kd.R_ne HO_4.out BK370.out (by decide))); replace HB := Aside0.mk (hb); have HO373 := Aside0.mk (ho); clear HO_4; clear ho hb hg hat)
   go_roundg k2
   case measure => have := HJ3.out; have := HK2.out; omega
   case rel => exact ⟨(y371), (wrap64 (x5_2 - 1)), (by first | rfl | (simp; done) | (simp [*]; done)), H', ⟨by have := HJ3.out; have := HK2.out; omega⟩, ⟨by (with_reducible repeat (first | apply Kd.R_alloc | apply Kd.R_drewN | apply Kd.R_drew)); exact HO373.out⟩, ⟨bk BK370.out⟩, ⟨bl⟩⟩

end Go.Proofs.Ytlbljdjbcbgnlaa.PX
namespace Go.Proofs.Ytlbljdjbcbgnlaa.PX
open Go.RowKit Go.Proofs.YtlbljdjbcbgnlaaW.PrintWords Go.Proofs.YtlbljdjbcbgnlaaW.PrintLast Go.Proofs.YtlbljdjbcbgnlaaW.PrintMore
attribute [local go_sem] max2_int min2_int max_two min_two max_three min_three max_four min_four   -- for this text's walks alone
set_option linter.unusedVariables false
set_option linter.unusedSimpArgs false

/-! ### maskref4_Dec_Times: function 38 -/
mutual
def maskref4_Dec_Times.l0 : Nat → List Int → List Int → Int → Int → Bool → List Int → Bool → List Int → Option (Bool × List Int)
 | 0, _, _, _, _, _, _, _, _ => none
 | k + 1, x5, x21, x22, x23, x379000, x379001, x380000, x380001 => if x23 < x22 then (if 0 ≤ x23 then (if x23 < (x21.length : Int) then (maskref4_Dec_Times.l1 k x5 x23 (rd x21 x23) x21 x22 x23 x380001 (x380001.length : Int) 0 x379000 x379001 x380000 x380001) else (none)) else (none)) else (maskref4_Dec_Times.l2 k x5 0 x379000 x379001 x380000 x380001)
def maskref4_Dec_Times.l1 : Nat → List Int → Int → Int → List Int → Int → Int → List Int → Int → Int → Bool → List Int → Bool → List Int → Option (Bool × List Int)
 | 0, _, _, _, _, _, _, _, _, _, _, _, _, _ => none
 | k + 1, x5, x6, x7, x21, x22, x23, x29, x30, x31, x379000, x379001, x380000, x380001 => if x31 < x30 then (if 0 ≤ x31 then (if x31 < (x29.length : Int) then (if 0 ≤ (wrap64 (x6 + x31)) then (if (wrap64 (x6 + x31)) < (x5.length : Int) then (maskref4_Dec_Times.l1 k (x5.set ((wrap64 (x6 + x31)) : Int).toNat (wrap64 ((rd x5 (wrap64 (x6 + x31))) + (wrap64 (x7 * (rd x29 x31)))))) x6 x7 x21 x22 x23 x29 x30 (wrap64 (x31 + 1)) x379000 x379001 x380000 x380001) else (none)) else (none)) else (none)) else (none)) else (maskref4_Dec_Times.l0 k x5 x21 x22 (wrap64 (x23 + 1)) x379000 x379001 x380000 x380001)
def maskref4_Dec_Times.l2 : Nat → List Int → Int → Bool → List Int → Bool → List Int → Option (Bool × List Int)
 | 0, _, _, _, _, _, _ => none
 | k + 1, x5, x10, x379000, x379001, x380000, x380001 => if (wrap64 (x10 + 1)) < (x5.length : Int) then (if 0 ≤ (wrap64 (x10 + 1)) then (if 0 ≤ x10 then (if x10 < (x5.length : Int) then ((some (x5.set ((wrap64 (x10 + 1)) : Int).toNat (wrap64 ((rd x5 (wrap64 (x10 + 1))) + (wrap64 (Int.tdiv (rd x5 x10) 10)))) : List Int)).bind fun y390 => (maskref4_Dec_Times.l2 k (y390.set (x10 : Int).toNat (Int.tmod (rd y390 x10) 10)) (wrap64 (x10 + 1)) x379000 x379001 x380000 x380001)) else (none)) else (none)) else (none)) else ((maskref4_trim.f (x379000 != x380000) x5).bind fun bt393 => (some (bt393.1, bt393.2)))
end
def maskref4_Dec_Times.f (k : Nat) (a0_0 : Bool) (l0_1 : List Int) (a1_0 : Bool) (l1_1 : List Int) : Option (Bool × List Int) := if 0 ≤ (wrap64 ((wrap64 ((l0_1.length : Int) + (l1_1.length : Int))) + 1)) then (if (wrap64 ((wrap64 ((l0_1.length : Int) + (l1_1.length : Int))) + 1) : Int).toNat ≤ 35184372088832 then (maskref4_Dec_Times.l0 k (List.replicate (wrap64 ((wrap64 ((l0_1.length : Int) + (l1_1.length : Int))) + 1) : Int).toNat 0) l0_1 (l0_1.length : Int) 0 a0_0 l0_1 a1_0 l1_1) else (none)) else (none)
theorem maskref4_Dec_Times.mono_l : ∀ k, (∀ y0 y1 y2 y3 y4 y5 y6 y7, LeO (maskref4_Dec_Times.l0 k y0 y1 y2 y3 y4 y5 y6 y7) (maskref4_Dec_Times.l0 (k + 1) y0 y1 y2 y3 y4 y5 y6 y7)) ∧ (∀ y0 y1 y2 y3 y4 y5 y6 y7 y8 y9 y10 y11 y12, LeO (maskref4_Dec_Times.l1 k y0 y1 y2 y3 y4 y5 y6 y7 y8 y9 y10 y11 y12) (maskref4_Dec_Times.l1 (k + 1) y0 y1 y2 y3 y4 y5 y6 y7 y8 y9 y10 y11 y12)) ∧ (∀ y0 y1 y2 y3 y4 y5, LeO (maskref4_Dec_Times.l2 k y0 y1 y2 y3 y4 y5) (maskref4_Dec_Times.l2 (k + 1) y0 y1 y2 y3 y4 y5))
 | 0 => ⟨fun _ _ _ _ _ _ _ _ r h => by simp [maskref4_Dec_Times.l0] at h, fun _ _ _ _ _ _ _ _ _ _ _ _ _ r h => by simp [maskref4_Dec_Times.l1] at h, fun _ _ _ _ _ _ r h => by simp [maskref4_Dec_Times.l2] at h⟩
 | k + 1 => by
  obtain ⟨ih0, ih1, ih2⟩ := maskref4_Dec_Times.mono_l k
  refine ⟨?_, ?_, ?_⟩
  · intro y0 y1 y2 y3 y4 y5 y6 y7
    unfold maskref4_Dec_Times.l0
    repeat' first
    | (with_reducible exact ih1 _ _ _ _ _ _ _ _ _ _ _ _ _)
    | (with_reducible exact ih2 _ _ _ _ _ _)
    | (with_reducible exact LeO.refl _)
    | (with_reducible exact LeO.none _)
    | (with_reducible refine LeO.ite ?_ ?_)
    | (with_reducible refine LeO.bind ?_ (fun _ => ?_))
  · intro y0 y1 y2 y3 y4 y5 y6 y7 y8 y9 y10 y11 y12
    unfold maskref4_Dec_Times.l1
    repeat' first
    | (with_reducible exact ih0 _ _ _ _ _ _ _ _)
    | (with_reducible exact ih1 _ _ _ _ _ _ _ _ _ _ _ _ _)
    | (with_reducible exact LeO.refl _)
    | (with_reducible exact LeO.none _)
    | (with_reducible refine LeO.ite ?_ ?_)
    | (with_reducible refine LeO.bind ?_ (fun _ => ?_))
  · intro y0 y1 y2 y3 y4 y5
    unfold maskref4_Dec_Times.l2
    repeat' first
    | (with_reducible exact ih2 _ _ _ _ _ _)
    | (with_reducible exact LeO.refl _)
    | (with_reducible exact LeO.none _)
    | (with_reducible refine LeO.ite ?_ ?_)
    | (with_reducible refine LeO.bind ?_ (fun _ => ?_))
theorem maskref4_Dec_Times.mono : ∀ a0 a1 a2 a3 k, LeO (maskref4_Dec_Times.f k a0 a1 a2 a3) (maskref4_Dec_Times.f (k + 1) a0 a1 a2 a3) := by
 intro a0 a1 a2 a3 k
 obtain ⟨ih0, ih1, ih2⟩ := maskref4_Dec_Times.mono_l k
 unfold maskref4_Dec_Times.f
 repeat' first
  | (with_reducible exact ih0 _ _ _ _ _ _ _ _)
  | (with_reducible exact LeO.refl _)
  | (with_reducible exact LeO.none _)
  | (with_reducible refine LeO.ite ?_ ?_)
  | (with_reducible refine LeO.bind ?_ (fun _ => ?_))
def maskref4_Dec_Times.T14 : Bool × List (List Nat × List Nat) := (true, [([], []), ([], []), ([1], [1]), ([0, 2], [0, 2]), ([3], [3]), ([], []), ([], []), ([5, 6], [5, 6]), ([7], [7]), ([8], [8]), ([4, 9], [4, 9]), ([0, 2, 0, 1, 2, 3, 4, 5, 6, 7, 8, 9, 10], [0, 2]), ([11, 10, 0, 1, 2, 3, 4, 5, 6, 7, 8, 9, 10], [10, 11])])
def maskref4_Dec_Times.B14 : List Nat := [0, 0, 2, 7, 15, 0, 0, 96, 224, 480, 1023, 2047, 4095]
theorem maskref4_Dec_Times.tab14 : rtab .any (opsOf Try.f38 14) = maskref4_Dec_Times.T14 := by kernel_rfl
theorem maskref4_Dec_Times.bits14 : waitsOk maskref4_Dec_Times.T14.2 maskref4_Dec_Times.B14 = true := by kernel_rfl
set_option maxHeartbeats 8000000 in
set_option maxRecDepth 100000 in
theorem maskref4_Dec_Times.calls (k : Nat) (a0_0 : Bool) (A0_1 : Option Addr) (c0_1 : Nat) (l0_1 : List Int) (a1_0 : Bool) (A1_1 : Option Addr) (c1_1 : Nat) (l1_1 : List Int) (r1 : Bool) (r2 : List Int) (w : World) (hr0_1 : Kd.C (Kd.int .i64) w A0_1 l0_1.length l0_1) (hc0_1 : l0_1.length ≤ c0_1) (hr1_1 : Kd.C (Kd.int .i64) w A1_1 l1_1.length l1_1) (hc1_1 : l1_1.length ≤ c1_1) (h : maskref4_Dec_Times.f k a0_0 l0_1 a1_0 l1_1 = some (r1, r2)) :
 Calls Try.prog 38 #[.agg #[.bool a0_0, .slice A0_1 l0_1.length c0_1], .agg #[.bool a1_0, .slice A1_1 l1_1.length c1_1]] w fun e w' => ∃ v1_ : Value, e = .returned (.agg #[.bool r1, v1_]) ∧ Kd.V (Kd.int .i64) 3 w' w.heap.size (fun k_ => (w.heap.size ≤ k_)) v1_ r2 ∧ Below w.heap.size w w' := by
 have HR0_1 := Aside0.mk hr0_1
 clear hr0_1 hc0_1
 have HR1_1 := Aside0.mk hr1_1
 clear hr1_1 hc1_1
 have HB := Aside0.mk (Below.refl w.heap.size w)
 have H : (if 0 ≤ (wrap64 ((wrap64 ((l0_1.length : Int) + (l1_1.length : Int))) + 1)) then (if (wrap64 ((wrap64 ((l0_1.length : Int) + (l1_1.length : Int))) + 1) : Int).toNat ≤ 35184372088832 then (maskref4_Dec_Times.l0 k (List.replicate (wrap64 ((wrap64 ((l0_1.length : Int) + (l1_1.length : Int))) + 1) : Int).toNat 0) l0_1 (l0_1.length : Int) 0 a0_0 l0_1 a1_0 l1_1) else (none)) else (none)) = some (r1, r2) := h
 clear h
 obtain ⟨ji3, hji3⟩ : ∃ j_ : Int, (wrap64 ((wrap64 ((l0_1.length : Int) + (l1_1.length : Int))) + 1)) = j_ := ⟨_, rfl⟩
 replace H : (if 0 ≤ (ji3) then (if (ji3 : Int).toNat ≤ 35184372088832 then (maskref4_Dec_Times.l0 k (List.replicate (ji3 : Int).toNat 0) l0_1 (l0_1.length : Int) 0 a0_0 l0_1 a1_0 l1_1) else (none)) else (none)) = some (r1, r2) := by first | (rw [hji3] at H; exact H) | (simp only [hji3] at H ⊢; exact H)
 have hji3w : (IntKind.i64.wrap ((wrap64 ((l0_1.length : Int) + (l1_1.length : Int))) + 1)) = ji3 := (i64_w _).trans hji3
 by_cases c4 : 0 ≤ (ji3)
 rotate_left
 · rw [if_neg c4] at H
   exact absurd H (by simp)
 rw [if_pos c4] at H
 have c4b0 := eq_true c4
 have c4b1 : decide (0 ≤ (ji3)) = true := decide_eq_true c4
 clear c4
 by_cases c5 : (ji3 : Int).toNat ≤ 35184372088832
 rotate_left
 · rw [if_neg c5] at H
   exact absurd H (by simp)
 rw [if_pos c5] at H
 have c5b0 := eq_true c5
 have c5b1 : decide ((ji3 : Int).toNat ≤ 35184372088832) = true := decide_eq_true c5
 clear c5
 obtain ⟨y381, hy381⟩ : ∃ y_ : List Int, y_ = (List.replicate (ji3 : Int).toNat 0) := ⟨_, rfl⟩
 replace H : (maskref4_Dec_Times.l0 k y381 l0_1 (l0_1.length : Int) 0 a0_0 l0_1 a1_0 l1_1) = some (r1, r2) := by first | (rw [hy381]; with_reducible exact H) | (have H2_ := (Option.bind_some _ _).symm.trans H; rw [hy381]; with_reducible exact H2_) | (have H2_ := (Option.bind_some _ _).symm.trans H; with_reducible exact H2_) | with_reducible exact H | (rw [hy381]; exact H) | exact H
 have Ny381 := Aside0.mk hy381
 clear hy381
 have H' := Aside0.mk H
 clear H
 go_enter Try.func38, Try.ntmps38
 go_wp2_with (first | ((with_reducible refine gate_dst (N := 2) rfl ?_); refine box_event ?hg (N := 2) ?hd (cs := #[.bool a0_0, .slice A0_1 l0_1.length c0_1]) (t := 36) ?hr ?_; (case hd => rfl); (case hg => rfl); (case hr => first | (go_simp; done) | (go_simp; rfl)); intro gb378 hg w6 hbox hb; have BK378 := Aside0.mk (hbox); replace HB := Aside0.mk (below_step bl hb); clear hb hbox hg) | ((with_reducible refine gate_dst (N := 3) rfl ?_); refine box_event ?hg (N := 3) ?hd (cs := #[.bool a1_0, .slice A1_1 l1_1.length c1_1]) (t := 36) ?hr ?_; (case hd => rfl); (case hg => rfl); (case hr => first | (go_simp; done) | (go_simp; rfl)); intro gb379 hg w7 hbox hb; have BK379 := Aside0.mk (hbox); replace HB := Aside0.mk (below_step bl hb); replace BK378 := Aside0.mk (bb BK378.out hb); clear hb hbox hg) | ((with_reducible refine gate_dst (N := 4) rfl ?_); refine box_event ?hg (N := 4) ?hd (cs := #[.bool false, .slice none 0 0]) (t := 36) ?hr ?_; (case hd => rfl); (case hg => rfl); (case hr => first | (go_simp; done) | (go_simp; rfl)); intro gb380 hg w8 hbox hb; have BK380 := Aside0.mk (hbox); have GE380 := Aside0.mk (ge (w := w) hg); replace HB := Aside0.mk (below_step bl hb); replace BK378 := Aside0.mk (bb BK378.out hb); replace BK379 := Aside0.mk (bb BK379.out hb); clear hb hbox hg; obtain ⟨hcz11_0, hcz11_1, hfz11_0, hfz11_1⟩ := bz2 BK378.out; obtain ⟨hcz13_0, hcz13_1, hfz13_0, hfz13_1⟩ := bz2 BK379.out) | ((with_reducible refine gate_dst (N := 19) rfl ?_); refine Kd.R_make (Kd.int .i64) _ 3 rfl (N := 19) rfl 34 _ _ rfl ji3 rfl rfl Try.underlying34 (.int .i64 0) 8 info3 rfl (by decide) (by omega) 0 (ok := fun _ => True) (okp := fun _ => True) rfl (fun _ hk => hk) trivial (of_decide_eq_true (by first | (with_reducible assumption) | assumption)) (Nat.le_trans (Nat.mul_le_mul_right _ (of_decide_eq_true (by first | (with_reducible assumption) | assumption) : ji3.toNat ≤ 35184372088832)) (by omega)) (Below.refl _ _) (Nat.le_refl _) ?_; intro v382 w14 ho15 hb hg_ hnew_; clear hg_ hnew_; (first | rw [← Ny381.out] at ho15 | (simp only [Int.reduceToNat] at ho15; rw [← Ny381.out] at ho15)); have HO383 := Aside0.mk (Kd.R_lower (Kd.R_newM (M := fun k_ => (w.heap.size ≤ k_)) ho15 (below_size bl) (fun k_ h_ => h_)) (below_size bl)); replace BK378 := Aside0.mk (bb BK378.out hb); replace BK379 := Aside0.mk (bb BK379.out hb); replace BK380 := Aside0.mk (bb BK380.out hb); replace HB := Aside0.mk (below_step bl hb); clear hb ho15; obtain ⟨hcz16_0, hcz16_1, hfz16_0, hfz16_1⟩ := bz2 BK378.out))
 go_loopg [23] k (fun kq v23 w' => ∃ (x5_1 : List Int) (x23_1 : Int), v23 = .int .i64 x23_1 ∧ Aside0 (maskref4_Dec_Times.l0 kq x5_1 l0_1 (l0_1.length : Int) x23_1 a0_0 l0_1 a1_0 l1_1 = some (r1, r2)) ∧ Aside0 (kq ≤ k) ∧ Aside0 (Kd.R (Kd.int .i64) 3 w' w.heap.size (fun k_ => (w.heap.size ≤ k_)) v382 x5_1) ∧ Aside0 (w'.heap[gb378]? = some (.cells #[.bool a0_0, (.slice A0_1 l0_1.length c0_1)] 36 (0, 0))) ∧ Aside0 (w'.heap[gb379]? = some (.cells #[.bool a1_0, (.slice A1_1 l1_1.length c1_1)] 36 (0, 0))) ∧ Aside0 (w'.heap[gb380]? = some (.cells #[.bool false, (.slice none 0 0)] 36 (0, 0))) ∧ Aside0 (Below w.heap.size w w'))
 case atStart => exact ⟨(y381), (0), (by first | rfl | (simp; done) | (simp [*]; done)), H', ⟨Nat.le_refl _⟩, ⟨by (with_reducible repeat (first | apply Kd.R_alloc | apply Kd.R_drewN | apply Kd.R_drew)); exact Kd.R_mono HO383.out (fun _ hk => hk.1)⟩, ⟨bk BK378.out⟩, ⟨bk BK379.out⟩, ⟨bk BK380.out⟩, ⟨bl⟩⟩
 clear H'
 clear c4b0 c4b1 c5b0 c5b1 hcz11_0 hcz11_1 hcz13_0 hcz13_1 hcz16_0 hcz16_1 hfz11_0 hfz11_1 hfz13_0 hfz13_1 hfz16_0 hfz16_1
 obtain ⟨x5_1, x23_1, rfl, HA, HK1, HO_5, BK378, BK379, BK380, HB⟩ := hrel
 cases gk with
 | zero => exact absurd HA.out (by simp [maskref4_Dec_Times.l0])
 | succ k1 =>
  have H := HA.out
  clear HA
  simp only [maskref4_Dec_Times.l0] at H
  by_cases c17 : x23_1 < (l0_1.length : Int)
  · rw [if_pos c17] at H
    have c17b0 : decide (x23_1 < (l0_1.length : Int)) = true := decide_eq_true c17
    clear c17
    by_cases c18 : 0 ≤ x23_1
    rotate_left
    · rw [if_neg c18] at H
      exact absurd H (by simp)
    rw [if_pos c18] at H
    have c18b0 : decide (0 ≤ x23_1) = true := decide_eq_true c18
    clear c18
    by_cases c19 : x23_1 < (l0_1.length : Int)
    rotate_left
    · rw [if_neg c19] at H
      exact absurd H (by simp)
    rw [if_pos c19] at H
    have c19b0 : decide (x23_1 < (l0_1.length : Int)) = true := decide_eq_true c19
    clear c19
    have H' := Aside0.mk H
    clear H
    have p384 : 0 ≤ (x23_1 : Int) := of_decide_eq_true (by first | (with_reducible assumption) | assumption)
    have q384 : x23_1 < (l0_1.length : Int) := of_decide_eq_true (by first | (with_reducible assumption) | assumption)
    obtain ⟨ad384, e384, hx384_0⟩ := Kd.at_int HR0_1.out x23_1 p384 q384
    cases e384
    replace hx384_0 := hc HB.out hx384_0
    replace p384 := eq_true p384
    replace q384 := eq_true q384
    obtain ⟨hcz22_0, hcz22_1, hfz22_0, hfz22_1⟩ := bz2 BK379.out
    go_wp2
    go_loopg [31] k1 (fun kq v31 w' => ∃ (x5_2 : List Int) (x31_2 : Int), v31 = .int .i64 x31_2 ∧ Aside0 (maskref4_Dec_Times.l1 kq x5_2 x23_1 (rd l0_1 x23_1) l0_1 (l0_1.length : Int) x23_1 l1_1 (l1_1.length : Int) x31_2 a0_0 l0_1 a1_0 l1_1 = some (r1, r2)) ∧ Aside0 (kq ≤ k1) ∧ Aside0 (Kd.R (Kd.int .i64) 3 w' w.heap.size (fun k_ => (w.heap.size ≤ k_)) v382 x5_2) ∧ Aside0 (w'.heap[gb378]? = some (.cells #[.bool a0_0, (.slice (some ad384) l0_1.length c0_1)] 36 (0, 0))) ∧ Aside0 (w'.heap[gb379]? = some (.cells #[.bool a1_0, (.slice A1_1 l1_1.length c1_1)] 36 (0, 0))) ∧ Aside0 (w'.heap[gb380]? = some (.cells #[.bool false, (.slice none 0 0)] 36 (0, 0))) ∧ Aside0 (Below w.heap.size w w'))
    case atStart => exact ⟨(x5_1), (0), (by first | rfl | (simp; done) | (simp [*]; done)), H', ⟨Nat.le_refl _⟩, ⟨by (with_reducible repeat (first | apply Kd.R_alloc | apply Kd.R_drewN | apply Kd.R_drew)); exact HO_5.out⟩, ⟨bk BK378.out⟩, ⟨bk BK379.out⟩, ⟨bk BK380.out⟩, ⟨bl⟩⟩
    clear H'
    clear c17b0 c18b0 c19b0 hcz22_0 hcz22_1 hfz22_0 hfz22_1 hx384_0 p384 q384
    obtain ⟨x5_2, x31_2, rfl, HA, HK2, HO_5, BK378, BK379, BK380, HB⟩ := hrel
    cases gk with
    | zero => exact absurd HA.out (by simp [maskref4_Dec_Times.l1])
    | succ k2 =>
     have H := HA.out
     clear HA
     simp only [maskref4_Dec_Times.l1] at H
     by_cases c23 : x31_2 < (l1_1.length : Int)
     rotate_left
     · rw [if_neg c23] at H
       have c23b0 : decide (x31_2 < (l1_1.length : Int)) = false := decide_eq_false c23
       clear c23
       have H' := Aside0.mk H
       clear H
       go_wp2
       go_roundg k2
       case measure => have := HK1.out; have := HK2.out; omega
       case rel => exact ⟨(x5_2), (wrap64 (x23_1 + 1)), (by first | rfl | (simp; done) | (simp [*]; done)), H', ⟨by have := HK1.out; have := HK2.out; omega⟩, ⟨by (with_reducible repeat (first | apply Kd.R_alloc | apply Kd.R_drewN | apply Kd.R_drew)); exact HO_5.out⟩, ⟨bk BK378.out⟩, ⟨bk BK379.out⟩, ⟨bk BK380.out⟩, ⟨bl⟩⟩
     rw [if_pos c23] at H
     have c23b0 : decide (x31_2 < (l1_1.length : Int)) = true := decide_eq_true c23
     clear c23
     by_cases c24 : 0 ≤ x31_2
     rotate_left
     · rw [if_neg c24] at H
       exact absurd H (by simp)
     rw [if_pos c24] at H
     have c24b0 : decide (0 ≤ x31_2) = true := decide_eq_true c24
     clear c24
     by_cases c25 : x31_2 < (l1_1.length : Int)
     rotate_left
     · rw [if_neg c25] at H
       exact absurd H (by simp)
     rw [if_pos c25] at H
     have c25b0 : decide (x31_2 < (l1_1.length : Int)) = true := decide_eq_true c25
     clear c25
     obtain ⟨ji26, hji26⟩ : ∃ j_ : Int, (wrap64 (x23_1 + x31_2)) = j_ := ⟨_, rfl⟩
     replace H : (if 0 ≤ (ji26) then (if (ji26) < (x5_2.length : Int) then (maskref4_Dec_Times.l1 k2 (x5_2.set ((ji26) : Int).toNat (wrap64 ((rd x5_2 (ji26)) + (wrap64 ((rd l0_1 x23_1) * (rd l1_1 x31_2)))))) x23_1 (rd l0_1 x23_1) l0_1 (l0_1.length : Int) x23_1 l1_1 (l1_1.length : Int) (wrap64 (x31_2 + 1)) a0_0 l0_1 a1_0 l1_1) else (none)) else (none)) = some (r1, r2) := by first | (rw [hji26] at H; exact H) | (simp only [hji26] at H ⊢; exact H)
     have hji26w : (IntKind.i64.wrap (x23_1 + x31_2)) = ji26 := (i64_w _).trans hji26
     by_cases c27 : 0 ≤ (ji26)
     rotate_left
     · rw [if_neg c27] at H
       exact absurd H (by simp)
     rw [if_pos c27] at H
     have c27b0 : decide (0 ≤ (ji26)) = true := decide_eq_true c27
     clear c27
     by_cases c28 : (ji26) < (x5_2.length : Int)
     rotate_left
     · rw [if_neg c28] at H
       exact absurd H (by simp)
     rw [if_pos c28] at H
     have c28b0 : decide ((ji26) < (x5_2.length : Int)) = true := decide_eq_true c28
     clear c28
     obtain ⟨y387, hy387⟩ : ∃ y_ : List Int, y_ = (x5_2.set ((ji26) : Int).toNat (wrap64 ((rd x5_2 (ji26)) + (wrap64 ((rd l0_1 x23_1) * (rd l1_1 x31_2)))))) := ⟨_, rfl⟩
     replace H : (maskref4_Dec_Times.l1 k2 y387 x23_1 (rd l0_1 x23_1) l0_1 (l0_1.length : Int) x23_1 l1_1 (l1_1.length : Int) (wrap64 (x31_2 + 1)) a0_0 l0_1 a1_0 l1_1) = some (r1, r2) := by first | (rw [hy387]; with_reducible exact H) | (have H2_ := (Option.bind_some _ _).symm.trans H; rw [hy387]; with_reducible exact H2_) | (have H2_ := (Option.bind_some _ _).symm.trans H; with_reducible exact H2_) | with_reducible exact H | (rw [hy387]; exact H) | exact H
     have Ny387 := Aside0.mk hy387
     clear hy387
     have H' := Aside0.mk H
     clear H
     have p385 : 0 ≤ (x31_2 : Int) := of_decide_eq_true (by first | (with_reducible assumption) | assumption)
     have q385 : x31_2 < (l1_1.length : Int) := of_decide_eq_true (by first | (with_reducible assumption) | assumption)
     obtain ⟨ad385, e385, hx385_0⟩ := Kd.at_int HR1_1.out x31_2 p385 q385
     cases e385
     replace hx385_0 := hc HB.out hx385_0
     replace p385 := eq_true p385
     replace q385 := eq_true q385
     obtain ⟨Ao30, co30, eo30⟩ := Kd.R_slice HO_5.out
     subst eo30
     have p386 : 0 ≤ ((ji26) : Int) := of_decide_eq_true (by first | (with_reducible assumption) | assumption)
     have q386 : (ji26) < (x5_2.length : Int) := of_decide_eq_true (by first | (with_reducible assumption) | assumption)
     obtain ⟨ad386, e386, hx386_0⟩ := Kd.at_int (Kd.R_reads' HO_5.out).2.2 (ji26) p386 q386
     cases e386
     replace p386 := eq_true p386
     replace q386 := eq_true q386
     have p29 : 0 ≤ ((ji26) : Int) := of_decide_eq_true (by first | (with_reducible assumption) | assumption)
     have q29 : ((ji26) : Int) < ((x5_2.length : Int) : Int) := of_decide_eq_true (by first | (with_reducible assumption) | assumption)
     obtain ⟨go29, co29, eo29, gb29, gl29, cl29, HG29⟩ := Kd.R_form HO_5.out (by omega)
     (first | cases eo29 | (injection eo29 with ea_ en_ ec_; (first | subst ea_ | (injection ea_ with ea_; subst ea_)); subst ec_; clear en_))
     have GB29 := Aside0.mk gb29
     clear gb29 gl29 HG29
     (first | simp only [add_plain] at hx386_0 | skip)
     obtain ⟨hx29_0, hf29_0⟩ := Kd.R_celln 0 HO_5.out ((ji26) : Int) p29 q29
     replace p29 := eq_true p29
     replace q29 := eq_true q29
     have HP31 := Kd.R_putg HO_5.out ((ji26) : Int) (wrap64 ((rd x5_2 (ji26)) + (wrap64 ((rd l0_1 x23_1) * (rd l1_1 x31_2)))))
     go_wp2_with ((with_reducible refine gate_store (t := 3) (p := 46) rfl ?_); refine store_event (t := 3) (p := 46) (v := ?vo_w32) (w1 := (wr.setCell ⟨go29, ((ji26) : Int).toNat, none⟩ (.int .i64 (wrap64 ((rd x5_2 (ji26)) + (wrap64 ((rd l0_1 x23_1) * (rd l1_1 x31_2)))))))) ?hg ?ho ?hn ?hr ?_; (case ho => rfl); (case hg => rfl); (case hn => rfl); (case hr => first | (go_simp; done) | (go_simp; rfl)); intro w32 hw; have hg : wr.grownBy w32 (some go29) := (by rw [hw]; exact HP31.2); have hp_ : Kd.R (Kd.int .i64) 3 w32 w.heap.size (fun k_ => (w.heap.size ≤ k_)) (.slice (some ⟨go29, 0, none⟩) x5_2.length co30) y387 := (by rw [hw, Ny387.out]; exact HP31.1); clear HP31; replace BK378 := Aside0.mk (blk_grown (bk BK378.out) hg (Kd.R_ne HO_5.out BK378.out (by decide))); replace BK379 := Aside0.mk (blk_grown (bk BK379.out) hg (Kd.R_ne HO_5.out BK379.out (by decide))); replace BK380 := Aside0.mk (blk_grown (bk BK380.out) hg (Kd.R_ne HO_5.out BK380.out (by decide))); replace HO_5 := Aside0.mk (hp_); replace HB := Aside0.mk ((by rw [hw]; exact below_set (HB.out) GB29.out : Below w.heap.size w w32)); clear hg hw hp_)
     go_roundg k2
     case measure => have := HK1.out; have := HK2.out; omega
     case rel => exact ⟨(y387), (wrap64 (x31_2 + 1)), (by first | rfl | (simp; done) | (simp [*]; done)), H', ⟨by have := HK1.out; have := HK2.out; omega⟩, ⟨by (with_reducible repeat (first | apply Kd.R_alloc | apply Kd.R_drewN | apply Kd.R_drew)); exact HO_5.out⟩, ⟨bk BK378.out⟩, ⟨bk BK379.out⟩, ⟨bk BK380.out⟩, ⟨bl⟩⟩
  rw [if_neg c17] at H
  have c17b0 : decide (x23_1 < (l0_1.length : Int)) = false := decide_eq_false c17
  clear c17
  have H' := Aside0.mk H
  clear H
  go_wp2
  go_loopg [10] k1 (fun kq v10 w' => ∃ (x5_2 : List Int) (x10_2 : Int), v10 = .int .i64 x10_2 ∧ Aside0 (maskref4_Dec_Times.l2 kq x5_2 x10_2 a0_0 l0_1 a1_0 l1_1 = some (r1, r2)) ∧ Aside0 (kq ≤ k1) ∧ Aside0 (Kd.R (Kd.int .i64) 3 w' w.heap.size (fun k_ => (w.heap.size ≤ k_)) v382 x5_2) ∧ Aside0 (w'.heap[gb378]? = some (.cells #[.bool a0_0, (.slice A0_1 l0_1.length c0_1)] 36 (0, 0))) ∧ Aside0 (w'.heap[gb379]? = some (.cells #[.bool a1_0, (.slice A1_1 l1_1.length c1_1)] 36 (0, 0))) ∧ Aside0 (w'.heap[gb380]? = some (.cells #[.bool false, (.slice none 0 0)] 36 (0, 0))) ∧ Aside0 (Below w.heap.size w w'))
  case atStart => exact ⟨(x5_1), (0), (by first | rfl | (simp; done) | (simp [*]; done)), H', ⟨Nat.le_refl _⟩, ⟨by (with_reducible repeat (first | apply Kd.R_alloc | apply Kd.R_drewN | apply Kd.R_drew)); exact HO_5.out⟩, ⟨bk BK378.out⟩, ⟨bk BK379.out⟩, ⟨bk BK380.out⟩, ⟨bl⟩⟩
  clear H'
  clear c17b0
  obtain ⟨x5_2, x10_2, rfl, HA, HK2, HO_5, BK378, BK379, BK380, HB⟩ := hrel
  cases gk with
  | zero => exact absurd HA.out (by simp [maskref4_Dec_Times.l2])
  | succ k2 =>
   have H := HA.out
   clear HA
   simp only [maskref4_Dec_Times.l2] at H
   by_cases c33 : (wrap64 (x10_2 + 1)) < (x5_2.length : Int)
   rotate_left
   · rw [if_neg c33] at H
     have c33b0 : decide ((wrap64 (x10_2 + 1)) < (x5_2.length : Int)) = false := decide_eq_false c33
     clear c33
     replace H := Option.bind_eq_some_iff.mp H
     obtain ⟨⟨t393, t394⟩, A460, H⟩ := H
     replace H : (some (t393, t394)) = some (r1, r2) := H
     have A46 := Aside0.mk A460
     clear A460
     simp only [Option.some.injEq, Prod.mk.injEq] at H
     obtain ⟨rfl, rfl⟩ := H
     obtain ⟨Ao47, co47, eo47⟩ := Kd.R_slice HO_5.out
     subst eo47
     obtain ⟨hcz50_0, hcz50_1, hfz50_0, hfz50_1⟩ := bz2 BK378.out
     obtain ⟨hcz52_0, hcz52_1, hfz52_0, hfz52_1⟩ := bz2 BK379.out
     go_wp2_with ((with_reducible refine gate_callee (f := 66) rfl ?_); refine goesL_ (some 80) rfl rfl Try.func66 (by kernel_rfl) rfl #[.bool (a0_0 != a1_0), .slice Ao47 x5_2.length co47] rfl (by (try simp only [List.map_toArray, List.map_cons, List.map_nil]); first | done | rfl | (simp only [List.length_drop, List.length_take]; rfl)) ?_; (with_reducible refine (maskref4_trim.calls (a0_0 != a1_0) (fun k_ => some k_ = (.slice Ao47 x5_2.length co47 : Value).ownBlock) _ _ x5_2 t393 t394 _ ?side1 A46.out).mono ?_); (case side1 => exact Kd.R_V (Kd.R_tight rfl (Kd.R_types (Kd.R_types (Kd.R_types (HO_5.out) BK378.out (by decide)) BK379.out (by decide)) BK380.out (by decide)))); rintro e w53 ⟨v395, rfl, ho0, hb⟩; refine ⟨_, rfl, ?_⟩; have HO396 := Aside0.mk (Kd.V_lower (Kd.V_mono (ok' := fun k_ => (w.heap.size ≤ k_) ∧ k_ ≠ gb378 ∧ k_ ≠ gb379 ∧ k_ ≠ gb380) ho0 (fun k_ hk_ => ⟨Or.elim hk_ (fun hs_ => ((Kd.R_types (Kd.R_types (Kd.R_types (HO_5.out) BK378.out (by decide)) BK379.out (by decide)) BK380.out (by decide)).1 k_ hs_.symm).1.1.1) (fun hn_ => (Nat.le_trans (below_size bl) hn_)), Or.elim hk_ (fun hs_ => ((Kd.R_types (Kd.R_types (Kd.R_types (HO_5.out) BK378.out (by decide)) BK379.out (by decide)) BK380.out (by decide)).1 k_ hs_.symm).1.1.2) (fun hn_ => (Kd.freshB (g := gb378) (o := .cells #[.bool a0_0, .slice A0_1 l0_1.length c0_1] 36 (0, 0)) (bk BK378.out) k_ hn_)), Or.elim hk_ (fun hs_ => ((Kd.R_types (Kd.R_types (Kd.R_types (HO_5.out) BK378.out (by decide)) BK379.out (by decide)) BK380.out (by decide)).1 k_ hs_.symm).1.2) (fun hn_ => (Kd.freshB (g := gb379) (o := .cells #[.bool a1_0, .slice A1_1 l1_1.length c1_1] 36 (0, 0)) (bk BK379.out) k_ hn_)), Or.elim hk_ (fun hs_ => ((Kd.R_types (Kd.R_types (Kd.R_types (HO_5.out) BK378.out (by decide)) BK379.out (by decide)) BK380.out (by decide)).1 k_ hs_.symm).2) (fun hn_ => (Kd.freshB (g := gb380) (o := .cells #[.bool false, .slice none 0 0] 36 (0, 0)) (bk BK380.out) k_ hn_))⟩)) (below_size bl)); replace HO_5 := Aside0.mk (rb HO_5.out hb); replace BK378 := Aside0.mk (bb BK378.out hb); replace BK379 := Aside0.mk (bb BK379.out hb); replace BK380 := Aside0.mk (bb BK380.out hb); replace HB := Aside0.mk (below_step bl hb); (try clear hb); (try clear ho0); obtain ⟨hcz54_0, hcz54_1, hfz54_0, hfz54_1⟩ := bz2 BK380.out; obtain ⟨Ao55, co55, eo55⟩ := Kd.V_slice HO396.out; subst eo55)
     refine bodyPost_ret (results_cell_row rfl _ _ gb380 36 #[.bool t393, .slice Ao55 t394.length co55] (0, 0) _ rfl (by (with_reducible repeat (first | refine blk_drewN ?_ _ | refine blk_drew ?_ | refine blk_alloc ?_ _)); refine blk_put (cs := #[.bool t393, .slice none 0 0]) ?_ 1 _ rfl; (with_reducible repeat (first | refine blk_drewN ?_ _ | refine blk_drew ?_ | refine blk_alloc ?_ _)); refine blk_put (cs := #[.bool false, .slice none 0 0]) ?_ 0 _ rfl; (with_reducible repeat (first | refine blk_drewN ?_ _ | refine blk_drew ?_ | refine blk_alloc ?_ _)); exact BK380.out) Try.underlying36 rfl (by kernel_rfl)) rfl ?_
     exact ⟨_, by first | rfl | (simp [errW_none, errW_some] <;> rfl) | (simp only [← hji3]; first | rfl | (simp [errW_none, errW_some] <;> rfl)) | (simp [*, errW_none, errW_some] <;> rfl), by (with_reducible repeat (first | apply Kd.V_alloc | apply Kd.V_drewN | apply Kd.V_drew)); exact Kd.V_mono (Kd.V_far (p := ⟨gb380, 1, none⟩) (Kd.V_far (p := ⟨gb380, 0, none⟩) (Kd.V_mono HO396.out (fun k_ hk => (⟨hk, hk.2.2.2⟩ : _ ∧ k_ ≠ gb380))) (fun _ hk => hk.2) (.bool t393)) (fun _ hk => hk.2) (.slice Ao55 t394.length co55)) (fun _ hk => hk.1.1), bl⟩
   rw [if_pos c33] at H
   have c33b0 : decide ((wrap64 (x10_2 + 1)) < (x5_2.length : Int)) = true := decide_eq_true c33
   clear c33
   obtain ⟨ji34, hji34⟩ : ∃ j_ : Int, (wrap64 (x10_2 + 1)) = j_ := ⟨_, rfl⟩
   replace H : (if 0 ≤ (ji34) then (if 0 ≤ x10_2 then (if x10_2 < (x5_2.length : Int) then ((some (x5_2.set ((ji34) : Int).toNat (wrap64 ((rd x5_2 (ji34)) + (wrap64 (Int.tdiv (rd x5_2 x10_2) 10)))) : List Int)).bind fun y390 => (maskref4_Dec_Times.l2 k2 (y390.set (x10_2 : Int).toNat (Int.tmod (rd y390 x10_2) 10)) ji34 a0_0 l0_1 a1_0 l1_1)) else (none)) else (none)) else (none)) = some (r1, r2) := by first | (rw [hji34] at H; exact H) | (simp only [hji34] at H ⊢; exact H)
   (try rw [hji34] at c33b0)
   have hji34w : (IntKind.i64.wrap (x10_2 + 1)) = ji34 := (i64_w _).trans hji34
   by_cases c35 : 0 ≤ (ji34)
   rotate_left
   · rw [if_neg c35] at H
     exact absurd H (by simp)
   rw [if_pos c35] at H
   have c35b0 : decide (0 ≤ (ji34)) = true := decide_eq_true c35
   clear c35
   by_cases c36 : 0 ≤ x10_2
   rotate_left
   · rw [if_neg c36] at H
     exact absurd H (by simp)
   rw [if_pos c36] at H
   have c36b0 : decide (0 ≤ x10_2) = true := decide_eq_true c36
   clear c36
   by_cases c37 : x10_2 < (x5_2.length : Int)
   rotate_left
   · rw [if_neg c37] at H
     exact absurd H (by simp)
   rw [if_pos c37] at H
   have c37b0 : decide (x10_2 < (x5_2.length : Int)) = true := decide_eq_true c37
   clear c37
   obtain ⟨y390, hy390⟩ : ∃ y_ : List Int, y_ = (x5_2.set ((ji34) : Int).toNat (wrap64 ((rd x5_2 (ji34)) + (wrap64 (Int.tdiv (rd x5_2 x10_2) 10))))) := ⟨_, rfl⟩
   replace H : (maskref4_Dec_Times.l2 k2 (y390.set (x10_2 : Int).toNat (Int.tmod (rd y390 x10_2) 10)) ji34 a0_0 l0_1 a1_0 l1_1) = some (r1, r2) := by first | (rw [hy390]; with_reducible exact H) | (have H2_ := (Option.bind_some _ _).symm.trans H; rw [hy390]; with_reducible exact H2_) | (have H2_ := (Option.bind_some _ _).symm.trans H; with_reducible exact H2_) | with_reducible exact H | (rw [hy390]; exact H) | exact H
   have Ny390 := Aside0.mk hy390
   clear hy390
   obtain ⟨y392, hy392⟩ : ∃ y_ : List Int, y_ = (y390.set (x10_2 : Int).toNat (Int.tmod (rd y390 x10_2) 10)) := ⟨_, rfl⟩
   replace H : (maskref4_Dec_Times.l2 k2 y392 ji34 a0_0 l0_1 a1_0 l1_1) = some (r1, r2) := by first | (rw [hy392]; with_reducible exact H) | (have H2_ := (Option.bind_some _ _).symm.trans H; rw [hy392]; with_reducible exact H2_) | (have H2_ := (Option.bind_some _ _).symm.trans H; with_reducible exact H2_) | with_reducible exact H | (rw [hy392]; exact H) | exact H
   have Ny392 := Aside0.mk hy392
   clear hy392
   have H' := Aside0.mk H
   clear H
   obtain ⟨Ao40, co40, eo40⟩ := Kd.R_slice HO_5.out
   subst eo40
   try go_wp2
   replace HO_5 := Aside0.mk (Kd.R_drew HO_5.out); replace BK378 := Aside0.mk (blk_drew BK378.out); replace BK379 := Aside0.mk (blk_drew BK379.out); replace BK380 := Aside0.mk (blk_drew BK380.out); replace HB := Aside0.mk (below_drew1 HB.out)
   have p388 : 0 ≤ ((ji34) : Int) := of_decide_eq_true (by first | (with_reducible assumption) | assumption)
   have q388 : (ji34) < (x5_2.length : Int) := of_decide_eq_true (by first | (with_reducible assumption) | assumption)
   obtain ⟨ad388, e388, hx388_0⟩ := Kd.at_int (Kd.R_reads' HO_5.out).2.2 (ji34) p388 q388
   cases e388
   replace p388 := eq_true p388
   replace q388 := eq_true q388
   have p389 : 0 ≤ (x10_2 : Int) := of_decide_eq_true (by first | (with_reducible assumption) | assumption)
   have q389 : x10_2 < (x5_2.length : Int) := of_decide_eq_true (by first | (with_reducible assumption) | assumption)
   obtain ⟨ad389, e389, hx389_0⟩ := Kd.at_int (Kd.R_reads' HO_5.out).2.2 x10_2 p389 q389
   obtain rfl : ad388 = ad389 := (by injection e389)
   replace p389 := eq_true p389
   replace q389 := eq_true q389
   have p38 : 0 ≤ ((ji34) : Int) := of_decide_eq_true (by first | (with_reducible assumption) | assumption)
   have q38 : ((ji34) : Int) < ((x5_2.length : Int) : Int) := of_decide_eq_true (by first | (with_reducible assumption) | assumption)
   obtain ⟨go38, co38, eo38, gb38, gl38, cl38, HG38⟩ := Kd.R_form HO_5.out (by omega)
   (first | cases eo38 | (injection eo38 with ea_ en_ ec_; (first | subst ea_ | (injection ea_ with ea_; subst ea_)); subst ec_; clear en_))
   have GB38 := Aside0.mk gb38
   have GG38 := Aside0.mk HG38
   clear gb38 gl38 HG38
   (first | simp only [add_plain] at hx388_0 | skip)
   (first | simp only [add_plain] at hx389_0 | skip)
   obtain ⟨hx38_0, hf38_0⟩ := Kd.R_celln 0 HO_5.out ((ji34) : Int) p38 q38
   replace p38 := eq_true p38
   replace q38 := eq_true q38
   have HP42 := Kd.R_putn HO_5.out ((ji34) : Int) (wrap64 ((rd x5_2 (ji34)) + (wrap64 (Int.tdiv (rd x5_2 x10_2) 10))))
   rw [← Ny390.out] at HP42
   have HQ42 := Aside0.mk HP42
   clear HP42
   refine start_ (n := 13) (S := fun w' => w'.cell? ⟨go38, ((ji34)).toNat, none⟩ = some (.int .i64 (rd x5_2 (ji34))) ∧ w'.cell? ⟨go38, (x10_2).toNat, none⟩ = some (.int .i64 (rd x5_2 x10_2))) (ds := [12]) #[false,false,false,false,false,false,false,false,false,false,false,false,false] (by kernel_rfl) rfl rfl ⟨hx388_0, hx389_0⟩ (fun hHeld => ?_); refine with_tabW maskref4_Dec_Times.tab14 maskref4_Dec_Times.bits14 (fun HT_ HW_ => ?_)
   generalize wr.drew = w41 at HO_5 BK378 BK379 BK380 HB GG38 HQ42 hf38_0 hx388_0 hx389_0 hx38_0 hHeld ⊢
   refine pure_ (i := 0) (N := some 56) (v := ?_) (a' := ?_) #[true,false,false,false,false,false,false,false,false,false,false,false,false] rfl rfl (any_of HT_.out (by kernel_rfl)) (fun _ _ _ h => h) (Or.inl ⟨by rfl, ?_⟩) ?_ ?_
   rotate_left; focus (intro w'; go_simp; with_reducible rfl)
   rotate_left; focus (simp only [Act.put, List.setIfInBounds_toArray, List.set_cons_zero, List.set_cons_succ, i64_w, i32_w]; rfl)
   refine pure_ (i := 1) (N := some 57) (v := ?_) (a' := ?_) #[true,true,false,false,false,false,false,false,false,false,false,false,false] rfl rfl (any_of HT_.out (by kernel_rfl)) (fun _ _ _ h => h) (Or.inl ⟨by rfl, ?_⟩) ?_ ?_
   rotate_left; focus (intro w'; go_simp; with_reducible rfl)
   rotate_left; focus (simp only [Act.put, List.setIfInBounds_toArray, List.set_cons_zero, List.set_cons_succ, i64_w, i32_w]; rfl)
   refine pure_ (i := 2) (N := some 58) (v := ?_) (a' := ?_) #[true,true,true,false,false,false,false,false,false,false,false,false,false] rfl rfl (any_of HT_.out (by kernel_rfl)) (fun _ _ _ h => h) (Or.inl ⟨by rfl, ?_⟩) ?_ ?_
   rotate_left; focus (intro w'; go_simp; with_reducible rfl)
   rotate_left; focus (simp only [Act.put, List.setIfInBounds_toArray, List.set_cons_zero, List.set_cons_succ, i64_w, i32_w]; rfl)
   refine pure_ (i := 3) (N := some 59) (v := ?_) (a' := ?_) #[true,true,true,true,false,false,false,false,false,false,false,false,false] rfl rfl (any_of HT_.out (by kernel_rfl)) (fun _ _ _ h => h) (Or.inl ⟨by rfl, ?_⟩) ?_ ?_
   rotate_left; focus (intro w'; go_simp; with_reducible rfl)
   rotate_left; focus (simp only [Act.put, List.setIfInBounds_toArray, List.set_cons_zero, List.set_cons_succ, i64_w, i32_w]; rfl)
   refine pure_ (i := 5) (N := some 61) (v := ?_) (a' := ?_) #[true,true,true,true,false,true,false,false,false,false,false,false,false] rfl rfl (any_of HT_.out (by kernel_rfl)) (fun _ _ _ h => h) (Or.inl ⟨by rfl, ?_⟩) ?_ ?_
   rotate_left; focus (intro w'; go_simp; with_reducible rfl)
   rotate_left; focus (simp only [Act.put, List.setIfInBounds_toArray, List.set_cons_zero, List.set_cons_succ, i64_w, i32_w]; rfl)
   refine pure_ (i := 6) (N := some 62) (v := ?_) (a' := ?_) #[true,true,true,true,false,true,true,false,false,false,false,false,false] rfl rfl (any_of HT_.out (by kernel_rfl)) (fun _ _ _ h => h) (Or.inl ⟨by rfl, ?_⟩) ?_ ?_
   rotate_left; focus (intro w'; go_simp; with_reducible rfl)
   rotate_left; focus (simp only [Act.put, List.setIfInBounds_toArray, List.set_cons_zero, List.set_cons_succ, i64_w, i32_w]; rfl)
   refine pure_ (i := 7) (N := some 63) (v := ?_) (a' := ?_) #[true,true,true,true,false,true,true,true,false,false,false,false,false] rfl rfl (any_of HT_.out (by kernel_rfl)) (fun _ _ _ h => h) (Or.inl ⟨by rfl, ?_⟩) ?_ ?_
   rotate_left; focus (intro w'; go_simp; with_reducible rfl)
   rotate_left; focus (simp only [Act.put, List.setIfInBounds_toArray, List.set_cons_zero, List.set_cons_succ, i64_w, i32_w]; rfl)
   refine take_ (i := 4) (N := some 60) (v := ?_) (a' := ?_) #[true,true,true,true,true,true,true,true,false,false,false,false,false] rfl rfl (take_ofW HT_.out HW_.out (by kernel_rfl)) (fun _ _ _ h => h) (Or.inl ⟨by rfl, ?_⟩) hHeld ?_ ?_
   rotate_left
   · rintro w' ⟨s0, s1⟩
     go_simp
     with_reducible rfl
   rotate_left; focus (simp only [Act.put, List.setIfInBounds_toArray, List.set_cons_zero, List.set_cons_succ, i64_w, i32_w]; rfl)
   refine take_ (i := 8) (N := some 64) (v := ?_) (a' := ?_) #[true,true,true,true,true,true,true,true,true,false,false,false,false] rfl rfl (take_ofW HT_.out HW_.out (by kernel_rfl)) (fun _ _ _ h => h) (Or.inl ⟨by rfl, ?_⟩) hHeld ?_ ?_
   rotate_left
   · rintro w' ⟨s0, s1⟩
     go_simp
     with_reducible rfl
   rotate_left; focus (simp only [Act.put, List.setIfInBounds_toArray, List.set_cons_zero, List.set_cons_succ, i64_w, i32_w]; rfl)
   refine pure_ (i := 9) (N := some 65) (v := ?_) (a' := ?_) #[true,true,true,true,true,true,true,true,true,true,false,false,false] rfl rfl (any_of HT_.out (by kernel_rfl)) (fun _ _ _ h => h) (Or.inl ⟨by rfl, ?_⟩) ?_ ?_
   rotate_left; focus (intro w'; go_simp; with_reducible rfl)
   rotate_left; focus (simp only [Act.put, List.setIfInBounds_toArray, List.set_cons_zero, List.set_cons_succ, i64_w, i32_w]; rfl)
   refine pure_ (i := 10) (N := some 66) (v := ?_) (a' := ?_) #[true,true,true,true,true,true,true,true,true,true,true,false,false] rfl rfl (any_of HT_.out (by kernel_rfl)) (fun _ _ _ h => h) (Or.inl ⟨by rfl, ?_⟩) ?_ ?_
   rotate_left; focus (intro w'; go_simp; with_reducible rfl)
   rotate_left; focus (simp only [Act.put, List.setIfInBounds_toArray, List.set_cons_zero, List.set_cons_succ, i64_w, i32_w]; rfl)
   refine pure_ (i := 11) (N := some 67) (v := ?_) (a' := ?_) #[true,true,true,true,true,true,true,true,true,true,true,true,false] rfl rfl (any_of HT_.out (by kernel_rfl)) (fun _ _ _ h => h) (Or.inl ⟨by rfl, ?_⟩) ?_ ?_
   rotate_left; focus (intro w'; go_simp; with_reducible rfl)
   rotate_left; focus (simp only [Act.put, List.setIfInBounds_toArray, List.set_cons_zero, List.set_cons_succ, i64_w, i32_w]; rfl)
   refine last_ (i := 12) (N := none) #[true,true,true,true,true,true,true,true,true,true,true,true,true] rfl rfl (one_of HT_.out (by kernel_rfl)) (by decide) (fun K hK => ?_)
   refine skip_ (w1 := ?_) (by rfl) rfl ?_ ?_
   rotate_left; focus (go_simp; rfl)
   refine hK.out _ _ ?_
   clear hK K
   refine done_ (done_of HT_.out (by kernel_rfl)) ?_
   have n0_ : Aside0 (Kd.R (Kd.int .i64) 3 (w41.setCell ⟨go38, ((ji34) : Int).toNat, none⟩ (.int .i64 (wrap64 ((rd x5_2 (ji34)) + (wrap64 (Int.tdiv (rd x5_2 x10_2) 10)))))) w.heap.size (fun k_ => (w.heap.size ≤ k_)) (.slice (some ⟨go38, 0, none⟩) x5_2.length co40) y390) := ⟨by (with_reducible repeat (first | apply Kd.R_alloc | apply Kd.R_drewN | apply Kd.R_drew)); exact HQ42.out⟩
   have n1_ : Aside0 ((w41.setCell ⟨go38, ((ji34) : Int).toNat, none⟩ (.int .i64 (wrap64 ((rd x5_2 (ji34)) + (wrap64 (Int.tdiv (rd x5_2 x10_2) 10)))))).heap[gb378]? = some (.cells #[.bool a0_0, .slice A0_1 l0_1.length c0_1] 36 (0, 0))) := ⟨by (with_reducible repeat (first | refine blk_drewN ?_ _ | refine blk_drew ?_ | refine blk_alloc ?_ _)); refine blk_far ?_ (by have h_ := Kd.R_ne HO_5.out BK378.out (by decide); intro e_; exact h_ (by rw [e_]; rfl)) _; (with_reducible repeat (first | refine blk_drewN ?_ _ | refine blk_drew ?_ | refine blk_alloc ?_ _)); exact BK378.out⟩
   have n2_ : Aside0 ((w41.setCell ⟨go38, ((ji34) : Int).toNat, none⟩ (.int .i64 (wrap64 ((rd x5_2 (ji34)) + (wrap64 (Int.tdiv (rd x5_2 x10_2) 10)))))).heap[gb379]? = some (.cells #[.bool a1_0, .slice A1_1 l1_1.length c1_1] 36 (0, 0))) := ⟨by (with_reducible repeat (first | refine blk_drewN ?_ _ | refine blk_drew ?_ | refine blk_alloc ?_ _)); refine blk_far ?_ (by have h_ := Kd.R_ne HO_5.out BK379.out (by decide); intro e_; exact h_ (by rw [e_]; rfl)) _; (with_reducible repeat (first | refine blk_drewN ?_ _ | refine blk_drew ?_ | refine blk_alloc ?_ _)); exact BK379.out⟩
   have n3_ : Aside0 ((w41.setCell ⟨go38, ((ji34) : Int).toNat, none⟩ (.int .i64 (wrap64 ((rd x5_2 (ji34)) + (wrap64 (Int.tdiv (rd x5_2 x10_2) 10)))))).heap[gb380]? = some (.cells #[.bool false, .slice none 0 0] 36 (0, 0))) := ⟨by (with_reducible repeat (first | refine blk_drewN ?_ _ | refine blk_drew ?_ | refine blk_alloc ?_ _)); refine blk_far ?_ (by have h_ := Kd.R_ne HO_5.out BK380.out (by decide); intro e_; exact h_ (by rw [e_]; rfl)) _; (with_reducible repeat (first | refine blk_drewN ?_ _ | refine blk_drew ?_ | refine blk_alloc ?_ _)); exact BK380.out⟩
   have n4_ : Aside0 (Below w.heap.size w (w41.setCell ⟨go38, ((ji34) : Int).toNat, none⟩ (.int .i64 (wrap64 ((rd x5_2 (ji34)) + (wrap64 (Int.tdiv (rd x5_2 x10_2) 10))))))) := ⟨by repeat (first | (with_reducible first | exact HB.out | apply below_alloc | apply pw_below_drewN | apply below_drew1 | refine below_set ?_ GB38.out | refine below_set ?_ GE378.out | refine below_set ?_ GE379.out | refine below_set ?_ GE380.out) | exact HB.out)⟩
   (try clear HO_5)
   (try clear BK378)
   (try clear BK379)
   (try clear BK380)
   (try clear HB)
   generalize (w41.setCell ⟨go38, ((ji34) : Int).toNat, none⟩ (.int .i64 (wrap64 ((rd x5_2 (ji34)) + (wrap64 (Int.tdiv (rd x5_2 x10_2) 10)))))) = w43 at n0_ n1_ n2_ n3_ n4_ ⊢
   have HO_5 := n0_
   have BK378 := n1_
   have BK379 := n2_
   have BK380 := n3_
   have HB := n4_
   clear n0_ n1_ n2_ n3_ n4_
   have p391 : 0 ≤ (x10_2 : Int) := of_decide_eq_true (by first | (with_reducible assumption) | assumption)
   have q391 : x10_2 < (y390.length : Int) := (by have h_ : (x10_2 : Int) < ((x5_2.length : Int) : Int) := of_decide_eq_true (by first | (with_reducible assumption) | assumption); first | (have e_ := (Kd.R_reads' HO_5.out).1; omega) | simpa only [Ny390.out, List.length_set] using h_)
   obtain ⟨ad391, e391, hx391_0⟩ := Kd.at_int (Kd.R_reads' HO_5.out).2.2 x10_2 p391 q391
   obtain rfl : (⟨go38, 0, none⟩ : Addr) = ad391 := (by injection e391)
   (first | simp only [add_plain] at hx391_0 | simp only [add_at] at hx391_0 | simp only [Addr.add, Nat.zero_add] at hx391_0 | skip)
   replace p391 := eq_true p391
   replace q391 := eq_true q391
   have p39 : 0 ≤ (x10_2 : Int) := of_decide_eq_true (by first | (with_reducible assumption) | assumption)
   have q39 : (x10_2 : Int) < ((x5_2.length : Int) : Int) := of_decide_eq_true (by first | (with_reducible assumption) | assumption)
   obtain ⟨hx39_0, hf39_0⟩ := Kd.R_celln 0 HO_5.out (x10_2 : Int) p39 q39
   replace p39 := eq_true p39
   replace q39 := eq_true q39
   obtain ⟨hy44_, hz44_⟩ := Kd.R_celln 0 HO_5.out (x10_2 : Int) (of_decide_eq_true (by first | (with_reducible assumption) | assumption)) (of_decide_eq_true (by first | (with_reducible assumption) | assumption))
   have HP44 := Kd.R_putg HO_5.out (x10_2 : Int) (Int.tmod (rd y390 x10_2) 10)
   try go_wp2_with ((with_reducible refine gate_store (t := 3) (p := 73) rfl ?_); refine store_event (t := 3) (p := 73) (v := ?vo_w45) (w1 := (w43.setCell ⟨go38, (x10_2 : Int).toNat, none⟩ (.int .i64 (Int.tmod (rd y390 x10_2) 10)))) ?hg ?ho ?hn ?hr ?_; (case ho => rfl); (case hg => rfl); (case hn => rfl); (case hr => first | (go_simp; done) | (go_simp; rfl)); intro w45 hw; have hg : w43.grownBy w45 (some go38) := (by rw [hw]; exact HP44.2); have hp_ : Kd.R (Kd.int .i64) 3 w45 w.heap.size (fun k_ => (w.heap.size ≤ k_)) (.slice (some ⟨go38, 0, none⟩) x5_2.length co40) y392 := (by rw [hw, Ny392.out]; exact HP44.1); clear HP44; replace BK378 := Aside0.mk (blk_grown (bk BK378.out) hg (Kd.R_ne HO_5.out BK378.out (by decide))); replace BK379 := Aside0.mk (blk_grown (bk BK379.out) hg (Kd.R_ne HO_5.out BK379.out (by decide))); replace BK380 := Aside0.mk (blk_grown (bk BK380.out) hg (Kd.R_ne HO_5.out BK380.out (by decide))); replace HO_5 := Aside0.mk (hp_); replace HB := Aside0.mk ((by rw [hw]; exact below_set (HB.out) GB38.out : Below w.heap.size w w45)); clear hg hw hp_)
   go_roundg k2
   case measure => have := HK1.out; have := HK2.out; omega
   case rel => exact ⟨(y392), (ji34), (by first | rfl | (simp; done) | (simp only [← hji34] <;> (first | rfl | simp)) | (simp [*]; done)), H', ⟨by have := HK1.out; have := HK2.out; omega⟩, ⟨by (with_reducible repeat (first | apply Kd.R_alloc | apply Kd.R_drewN | apply Kd.R_drew)); exact HO_5.out⟩, ⟨bk BK378.out⟩, ⟨bk BK379.out⟩, ⟨bk BK380.out⟩, ⟨bl⟩⟩

end Go.Proofs.Ytlbljdjbcbgnlaa.PX
