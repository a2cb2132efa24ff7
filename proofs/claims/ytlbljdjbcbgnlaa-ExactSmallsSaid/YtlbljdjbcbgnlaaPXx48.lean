-- PRINTED by print.py (a twelfth state) out of the translation. Not trusted: Lean checks it.
import Derived.Test.YtlbljdjbcbgnlaaCmp
import Derived.Test.YtlbljdjbcbgnlaaPXx0
import Derived.Test.YtlbljdjbcbgnlaaPXx4
import Derived.Test.YtlbljdjbcbgnlaaPXx9
import Derived.Test.YtlbljdjbcbgnlaaPXx16
import Derived.Test.YtlbljdjbcbgnlaaPXx25
import Derived.Test.YtlbljdjbcbgnlaaPXx35
import Derived.Test.YtlbljdjbcbgnlaaPXx38
import Derived.Test.YtlbljdjbcbgnlaaPXx39
import Derived.Test.YtlbljdjbcbgnlaaPXx42
import Derived.Test.YtlbljdjbcbgnlaaPXx47
namespace Go.Proofs.Ytlbljdjbcbgnlaa.PX
open Go.RowKit Go.Proofs.YtlbljdjbcbgnlaaW.PrintWords Go.Proofs.YtlbljdjbcbgnlaaW.PrintLast Go.Proofs.YtlbljdjbcbgnlaaW.PrintMore
attribute [local go_sem] max2_int min2_int max_two min_two max_three min_three max_four min_four   -- for this text's walks alone
private theorem z1 {α : Type} {l : List α} {i : Nat} {a : α} : l.toArray.setIfInBounds i a = (l.set i a).toArray := List.setIfInBounds_toArray _ _ _
private theorem z2 {α : Type} {x : α} {xs : List α} {a : α} : (x :: xs).set 0 a = a :: xs := List.set_cons_zero
private theorem z3 {α : Type} {x : α} {xs : List α} {n : Nat} {a : α} : (x :: xs).set (n + 1) a = x :: xs.set n a := List.set_cons_succ
set_option linter.unusedVariables false
set_option linter.unusedSimpArgs false

/-! ### masklaw4_ExactSmalls: function 5 -/
mutual
def masklaw4_ExactSmalls.j0 : Nat → Int → Int → Int → Bool → Int → Int → Bool → Int → Bool → List Int → Bool → List Int → Option (Bool)
 | 0, _, _, _, _, _, _, _, _, _, _, _, _ => none
 | k + 1, x0, x1, x7, x8, x10, x11, x12, x13, x373000, x373001, x374000, x374001 => if x0 < 0 then (masklaw4_ExactSmalls.j1 k x0 x1 x7 x8 x10 x11 x12 (-1) x373000 x373001 x374000 x374001) else (masklaw4_ExactSmalls.j1 k x0 x1 x7 x8 x10 x11 x12 x13 x373000 x373001 x374000 x374001)
def masklaw4_ExactSmalls.j1 : Nat → Int → Int → Int → Bool → Int → Int → Bool → Int → Bool → List Int → Bool → List Int → Option (Bool)
 | 0, _, _, _, _, _, _, _, _, _, _, _, _ => none
 | k + 1, x0, x1, x7, x8, x10, x11, x12, x13, x373000, x373001, x374000, x374001 => if x0 < x1 then (masklaw4_ExactSmalls.j2 k x0 x1 x7 x8 x10 x11 x12 x13 (-1) x373000 x373001 x374000 x374001) else (masklaw4_ExactSmalls.j2 k x0 x1 x7 x8 x10 x11 x12 x13 0 x373000 x373001 x374000 x374001)
def masklaw4_ExactSmalls.j2 : Nat → Int → Int → Int → Bool → Int → Int → Bool → Int → Int → Bool → List Int → Bool → List Int → Option (Bool)
 | 0, _, _, _, _, _, _, _, _, _, _, _, _, _ => none
 | k + 1, x0, x1, x7, x8, x10, x11, x12, x13, x14, x373000, x373001, x374000, x374001 => if x0 > x1 then (masklaw4_ExactSmalls.j3 k x0 x1 x7 x8 x10 x11 x12 x13 1 x373000 x373001 x374000 x374001) else (masklaw4_ExactSmalls.j3 k x0 x1 x7 x8 x10 x11 x12 x13 x14 x373000 x373001 x374000 x374001)
def masklaw4_ExactSmalls.j3 : Nat → Int → Int → Int → Bool → Int → Int → Bool → Int → Int → Bool → List Int → Bool → List Int → Option (Bool)
 | 0, _, _, _, _, _, _, _, _, _, _, _, _, _ => none
 | k + 1, x0, x1, x7, x8, x10, x11, x12, x13, x14, x373000, x373001, x374000, x374001 => if x8 = true then (if x7 = x0 then ((exact_Sign.f x373000 x373001).bind fun t392 => (if t392 = x13 then ((exact_Cmp.f k x373000 x373001 x374000 x374001).bind fun t393 => (if t393 = x14 then ((exact_Text.f k x373000 x373001).bind fun t394 => ((maskref4_DecInt.f k x0).bind fun bt395 => ((maskref4_Dec_Text.f k bt395.1 bt395.2).bind fun t399 => (if t394.toList = t399.toList then ((exact_Bits.f x373000 x373001).bind fun t400 => ((maskref4_DecInt.f k x0).bind fun bt401 => ((maskref4_Dec_BitsOf.f k bt401.1 bt401.2).bind fun t405 => (if t400 = t405 then (if x10 = 0 then (if (x12 == (x1 == 0)) = true then (if x12 = true then (if x11 = 9223372036854775807 then (some true) else (some false)) else (some (x11 == 0))) else (some false)) else (some false)) else (some false))))) else (some false))))) else (some false))) else (some false))) else (some false)) else (some false)
end
def masklaw4_ExactSmalls.f (k : Nat) (a0 : Int) (a1 : Int) : Option (Bool) := (masklaw4_exacts.f).bind fun t363 => (if t363 = true then ((exact_Of.f a0).bind fun bt364 => ((exact_Of.f a1).bind fun bt368 => ((exact_Small.f k bt364.1 bt364.2).bind fun bt374 => ((exact_Of.f 9223372036854775807).bind fun bt376 => ((exact_Abs.f bt368.1 bt368.2).bind fun bt380 => ((exact_Add.f k bt376.1 bt376.2 bt380.1 bt380.2).bind fun bt384 => ((exact_Small.f k bt384.1 bt384.2.1).bind fun bt390 => (if a0 > 0 then (masklaw4_ExactSmalls.j0 k a0 a1 bt374.1 bt374.2 bt384.2.2 bt390.1 bt390.2 1 bt364.1 bt364.2 bt368.1 bt368.2) else (masklaw4_ExactSmalls.j0 k a0 a1 bt374.1 bt374.2 bt384.2.2 bt390.1 bt390.2 0 bt364.1 bt364.2 bt368.1 bt368.2))))))))) else (some false))
theorem masklaw4_ExactSmalls.mono_l : ∀ k, (∀ y0 y1 y2 y3 y4 y5 y6 y7 y8 y9 y10 y11, LeO (masklaw4_ExactSmalls.j0 k y0 y1 y2 y3 y4 y5 y6 y7 y8 y9 y10 y11) (masklaw4_ExactSmalls.j0 (k + 1) y0 y1 y2 y3 y4 y5 y6 y7 y8 y9 y10 y11)) ∧ (∀ y0 y1 y2 y3 y4 y5 y6 y7 y8 y9 y10 y11, LeO (masklaw4_ExactSmalls.j1 k y0 y1 y2 y3 y4 y5 y6 y7 y8 y9 y10 y11) (masklaw4_ExactSmalls.j1 (k + 1) y0 y1 y2 y3 y4 y5 y6 y7 y8 y9 y10 y11)) ∧ (∀ y0 y1 y2 y3 y4 y5 y6 y7 y8 y9 y10 y11 y12, LeO (masklaw4_ExactSmalls.j2 k y0 y1 y2 y3 y4 y5 y6 y7 y8 y9 y10 y11 y12) (masklaw4_ExactSmalls.j2 (k + 1) y0 y1 y2 y3 y4 y5 y6 y7 y8 y9 y10 y11 y12)) ∧ (∀ y0 y1 y2 y3 y4 y5 y6 y7 y8 y9 y10 y11 y12, LeO (masklaw4_ExactSmalls.j3 k y0 y1 y2 y3 y4 y5 y6 y7 y8 y9 y10 y11 y12) (masklaw4_ExactSmalls.j3 (k + 1) y0 y1 y2 y3 y4 y5 y6 y7 y8 y9 y10 y11 y12))
 | 0 => ⟨fun _ _ _ _ _ _ _ _ _ _ _ _ r h => by simp [masklaw4_ExactSmalls.j0] at h, fun _ _ _ _ _ _ _ _ _ _ _ _ r h => by simp [masklaw4_ExactSmalls.j1] at h, fun _ _ _ _ _ _ _ _ _ _ _ _ _ r h => by simp [masklaw4_ExactSmalls.j2] at h, fun _ _ _ _ _ _ _ _ _ _ _ _ _ r h => by simp [masklaw4_ExactSmalls.j3] at h⟩
 | k + 1 => by
  obtain ⟨ih0, ih1, ih2, ih3⟩ := masklaw4_ExactSmalls.mono_l k
  refine ⟨?_, ?_, ?_, ?_⟩
  · intro y0 y1 y2 y3 y4 y5 y6 y7 y8 y9 y10 y11
    unfold masklaw4_ExactSmalls.j0
    repeat' first
    | (with_reducible exact ih1 _ _ _ _ _ _ _ _ _ _ _ _)
    | (with_reducible exact LeO.refl _)
    | (with_reducible exact LeO.none _)
    | (with_reducible refine LeO.ite ?_ ?_)
    | (with_reducible refine LeO.bind ?_ (fun _ => ?_))
  · intro y0 y1 y2 y3 y4 y5 y6 y7 y8 y9 y10 y11
    unfold masklaw4_ExactSmalls.j1
    repeat' first
    | (with_reducible exact ih2 _ _ _ _ _ _ _ _ _ _ _ _ _)
    | (with_reducible exact LeO.refl _)
    | (with_reducible exact LeO.none _)
    | (with_reducible refine LeO.ite ?_ ?_)
    | (with_reducible refine LeO.bind ?_ (fun _ => ?_))
  · intro y0 y1 y2 y3 y4 y5 y6 y7 y8 y9 y10 y11 y12
    unfold masklaw4_ExactSmalls.j2
    repeat' first
    | (with_reducible exact ih3 _ _ _ _ _ _ _ _ _ _ _ _ _)
    | (with_reducible exact LeO.refl _)
    | (with_reducible exact LeO.none _)
    | (with_reducible refine LeO.ite ?_ ?_)
    | (with_reducible refine LeO.bind ?_ (fun _ => ?_))
  · intro y0 y1 y2 y3 y4 y5 y6 y7 y8 y9 y10 y11 y12
    unfold masklaw4_ExactSmalls.j3
    repeat' first
    | (with_reducible exact exact_Cmp.mono _ _ _ _ _)
    | (with_reducible exact exact_Text.mono _ _ _)
    | (with_reducible exact maskref4_DecInt.mono _ _)
    | (with_reducible exact maskref4_Dec_BitsOf.mono _ _ _)
    | (with_reducible exact maskref4_Dec_Text.mono _ _ _)
    | (with_reducible exact LeO.refl _)
    | (with_reducible exact LeO.none _)
    | (with_reducible refine LeO.ite ?_ ?_)
    | (with_reducible refine LeO.bind ?_ (fun _ => ?_))
theorem masklaw4_ExactSmalls.mono : ∀ a0 a1 k, LeO (masklaw4_ExactSmalls.f k a0 a1) (masklaw4_ExactSmalls.f (k + 1) a0 a1) := by
 intro a0 a1 k
 obtain ⟨ih0, ih1, ih2, ih3⟩ := masklaw4_ExactSmalls.mono_l k
 unfold masklaw4_ExactSmalls.f
 repeat' first
  | (with_reducible exact ih0 _ _ _ _ _ _ _ _ _ _ _ _)
  | (with_reducible exact exact_Add.mono _ _ _ _ _)
  | (with_reducible exact exact_Small.mono _ _ _)
  | (with_reducible exact LeO.refl _)
  | (with_reducible exact LeO.none _)
  | (with_reducible refine LeO.ite ?_ ?_)
  | (with_reducible refine LeO.bind ?_ (fun _ => ?_))
def masklaw4_ExactSmalls.T5 : Bool × List (List Nat × List Nat) := (true, [([], []), ([], []), ([1, 0], [1]), ([0, 2, 2], [0, 2]), ([3], [3]), ([4], [4]), ([4], [4]), ([], []), ([7, 5, 3, 0, 1, 2, 3, 4, 5, 7], [5, 7]), ([6, 8, 0, 1, 2, 3, 4, 5, 6, 7, 8], [6])])
def masklaw4_ExactSmalls.B5 : List Nat := [0, 0, 3, 7, 15, 31, 31, 0, 191, 511]
theorem masklaw4_ExactSmalls.tab5 : rtab .any (opsOf Try.f5 5) = masklaw4_ExactSmalls.T5 := by kernel_rfl
theorem masklaw4_ExactSmalls.bits5 : waitsOk masklaw4_ExactSmalls.T5.2 masklaw4_ExactSmalls.B5 = true := by kernel_rfl
set_option maxHeartbeats 8000000 in
set_option maxRecDepth 100000 in
theorem masklaw4_ExactSmalls.calls (k : Nat) (a0 : Int) (a1 : Int) (r : Bool) (w : World) (h : masklaw4_ExactSmalls.f k a0 a1 = some r) :
 Calls Try.prog 5 #[.int .i64 a0, .int .i64 a1] w fun e w' => e = .returned (.bool r) ∧ Below w.heap.size w w' := by
 have HB := Aside0.mk (Below.refl w.heap.size w)
 have H : ((masklaw4_exacts.f).bind fun t363 => (if t363 = true then ((exact_Of.f a0).bind fun bt364 => ((exact_Of.f a1).bind fun bt368 => ((exact_Small.f k bt364.1 bt364.2).bind fun bt374 => ((exact_Of.f 9223372036854775807).bind fun bt376 => ((exact_Abs.f bt368.1 bt368.2).bind fun bt380 => ((exact_Add.f k bt376.1 bt376.2 bt380.1 bt380.2).bind fun bt384 => ((exact_Small.f k bt384.1 bt384.2.1).bind fun bt390 => (if a0 > 0 then (masklaw4_ExactSmalls.j0 k a0 a1 bt374.1 bt374.2 bt384.2.2 bt390.1 bt390.2 1 bt364.1 bt364.2 bt368.1 bt368.2) else (masklaw4_ExactSmalls.j0 k a0 a1 bt374.1 bt374.2 bt384.2.2 bt390.1 bt390.2 0 bt364.1 bt364.2 bt368.1 bt368.2))))))))) else (some false))) = some r := h
 clear h
 replace H := Option.bind_eq_some_iff.mp H
 obtain ⟨t363, A30, H⟩ := H
 replace H : (if t363 = true then ((exact_Of.f a0).bind fun bt364 => ((exact_Of.f a1).bind fun bt368 => ((exact_Small.f k bt364.1 bt364.2).bind fun bt374 => ((exact_Of.f 9223372036854775807).bind fun bt376 => ((exact_Abs.f bt368.1 bt368.2).bind fun bt380 => ((exact_Add.f k bt376.1 bt376.2 bt380.1 bt380.2).bind fun bt384 => ((exact_Small.f k bt384.1 bt384.2.1).bind fun bt390 => (if a0 > 0 then (masklaw4_ExactSmalls.j0 k a0 a1 bt374.1 bt374.2 bt384.2.2 bt390.1 bt390.2 1 bt364.1 bt364.2 bt368.1 bt368.2) else (masklaw4_ExactSmalls.j0 k a0 a1 bt374.1 bt374.2 bt384.2.2 bt390.1 bt390.2 0 bt364.1 bt364.2 bt368.1 bt368.2))))))))) else (some false)) = some r := H
 have A3 := Aside0.mk A30
 clear A30
 by_cases c4 : t363 = true
 rotate_left
 · replace c4 := Bool.eq_false_iff.mpr c4
   subst c4
   have H1 : (some false) = some r := by rw [if_neg (show ¬ (false = true) by decide)] at H; exact H
   clear H
   have H := H1
   clear H1
   obtain rfl := Option.some.inj H
   go_enter Try.func5, Try.ntmps5
   go_wp2_with ((with_reducible refine gate_callee (f := 11) rfl ?_); refine goesL_ (some 15) rfl rfl Try.func11 (by kernel_rfl) rfl #[] rfl (by (try simp only [List.map_toArray, List.map_cons, List.map_nil]); first | done | rfl | (simp only [List.length_drop, List.length_take]; rfl)) ?_; (with_reducible refine (masklaw4_exacts.calls  false _ A3.out).mono ?_); rintro e w197 ⟨rfl, hb⟩; refine ⟨_, rfl, ?_⟩; replace HB := Aside0.mk (below_step bl hb); (try clear hb))
   go_ret
   exact ⟨by first | rfl | (simp [errW_none, errW_some] <;> rfl) | (simp [*, errW_none, errW_some] <;> rfl), bl⟩
 subst c4
 have H1 : ((exact_Of.f a0).bind fun bt364 => ((exact_Of.f a1).bind fun bt368 => ((exact_Small.f k bt364.1 bt364.2).bind fun bt374 => ((exact_Of.f 9223372036854775807).bind fun bt376 => ((exact_Abs.f bt368.1 bt368.2).bind fun bt380 => ((exact_Add.f k bt376.1 bt376.2 bt380.1 bt380.2).bind fun bt384 => ((exact_Small.f k bt384.1 bt384.2.1).bind fun bt390 => (if a0 > 0 then (masklaw4_ExactSmalls.j0 k a0 a1 bt374.1 bt374.2 bt384.2.2 bt390.1 bt390.2 1 bt364.1 bt364.2 bt368.1 bt368.2) else (masklaw4_ExactSmalls.j0 k a0 a1 bt374.1 bt374.2 bt384.2.2 bt390.1 bt390.2 0 bt364.1 bt364.2 bt368.1 bt368.2))))))))) = some r := by rw [if_pos rfl] at H; exact H
 clear H
 have H := H1
 clear H1
 replace H := Option.bind_eq_some_iff.mp H
 obtain ⟨⟨t364, t365⟩, A50, H⟩ := H
 replace H : ((exact_Of.f a1).bind fun bt368 => ((exact_Small.f k t364 t365).bind fun bt374 => ((exact_Of.f 9223372036854775807).bind fun bt376 => ((exact_Abs.f bt368.1 bt368.2).bind fun bt380 => ((exact_Add.f k bt376.1 bt376.2 bt380.1 bt380.2).bind fun bt384 => ((exact_Small.f k bt384.1 bt384.2.1).bind fun bt390 => (if a0 > 0 then (masklaw4_ExactSmalls.j0 k a0 a1 bt374.1 bt374.2 bt384.2.2 bt390.1 bt390.2 1 t364 t365 bt368.1 bt368.2) else (masklaw4_ExactSmalls.j0 k a0 a1 bt374.1 bt374.2 bt384.2.2 bt390.1 bt390.2 0 t364 t365 bt368.1 bt368.2)))))))) = some r := H
 have A5 := Aside0.mk A50
 clear A50
 replace H := Option.bind_eq_some_iff.mp H
 obtain ⟨⟨t368, t369⟩, A60, H⟩ := H
 replace H : ((exact_Small.f k t364 t365).bind fun bt374 => ((exact_Of.f 9223372036854775807).bind fun bt376 => ((exact_Abs.f t368 t369).bind fun bt380 => ((exact_Add.f k bt376.1 bt376.2 bt380.1 bt380.2).bind fun bt384 => ((exact_Small.f k bt384.1 bt384.2.1).bind fun bt390 => (if a0 > 0 then (masklaw4_ExactSmalls.j0 k a0 a1 bt374.1 bt374.2 bt384.2.2 bt390.1 bt390.2 1 t364 t365 t368 t369) else (masklaw4_ExactSmalls.j0 k a0 a1 bt374.1 bt374.2 bt384.2.2 bt390.1 bt390.2 0 t364 t365 t368 t369))))))) = some r := H
 have A6 := Aside0.mk A60
 clear A60
 replace H := Option.bind_eq_some_iff.mp H
 obtain ⟨⟨t374, t375⟩, A70, H⟩ := H
 replace H : ((exact_Of.f 9223372036854775807).bind fun bt376 => ((exact_Abs.f t368 t369).bind fun bt380 => ((exact_Add.f k bt376.1 bt376.2 bt380.1 bt380.2).bind fun bt384 => ((exact_Small.f k bt384.1 bt384.2.1).bind fun bt390 => (if a0 > 0 then (masklaw4_ExactSmalls.j0 k a0 a1 t374 t375 bt384.2.2 bt390.1 bt390.2 1 t364 t365 t368 t369) else (masklaw4_ExactSmalls.j0 k a0 a1 t374 t375 bt384.2.2 bt390.1 bt390.2 0 t364 t365 t368 t369)))))) = some r := H
 have A7 := Aside0.mk A70
 clear A70
 replace H := Option.bind_eq_some_iff.mp H
 obtain ⟨⟨t376, t377⟩, A80, H⟩ := H
 replace H : ((exact_Abs.f t368 t369).bind fun bt380 => ((exact_Add.f k t376 t377 bt380.1 bt380.2).bind fun bt384 => ((exact_Small.f k bt384.1 bt384.2.1).bind fun bt390 => (if a0 > 0 then (masklaw4_ExactSmalls.j0 k a0 a1 t374 t375 bt384.2.2 bt390.1 bt390.2 1 t364 t365 t368 t369) else (masklaw4_ExactSmalls.j0 k a0 a1 t374 t375 bt384.2.2 bt390.1 bt390.2 0 t364 t365 t368 t369))))) = some r := H
 have A8 := Aside0.mk A80
 clear A80
 replace H := Option.bind_eq_some_iff.mp H
 obtain ⟨⟨t380, t381⟩, A90, H⟩ := H
 replace H : ((exact_Add.f k t376 t377 t380 t381).bind fun bt384 => ((exact_Small.f k bt384.1 bt384.2.1).bind fun bt390 => (if a0 > 0 then (masklaw4_ExactSmalls.j0 k a0 a1 t374 t375 bt384.2.2 bt390.1 bt390.2 1 t364 t365 t368 t369) else (masklaw4_ExactSmalls.j0 k a0 a1 t374 t375 bt384.2.2 bt390.1 bt390.2 0 t364 t365 t368 t369)))) = some r := H
 have A9 := Aside0.mk A90
 clear A90
 replace H := Option.bind_eq_some_iff.mp H
 obtain ⟨⟨t384, t385, t388⟩, A100, H⟩ := H
 replace H : ((exact_Small.f k t384 t385).bind fun bt390 => (if a0 > 0 then (masklaw4_ExactSmalls.j0 k a0 a1 t374 t375 t388 bt390.1 bt390.2 1 t364 t365 t368 t369) else (masklaw4_ExactSmalls.j0 k a0 a1 t374 t375 t388 bt390.1 bt390.2 0 t364 t365 t368 t369))) = some r := H
 have A10 := Aside0.mk A100
 clear A100
 replace H := Option.bind_eq_some_iff.mp H
 obtain ⟨⟨t390, t391⟩, A110, H⟩ := H
 replace H : (if a0 > 0 then (masklaw4_ExactSmalls.j0 k a0 a1 t374 t375 t388 t390 t391 1 t364 t365 t368 t369) else (masklaw4_ExactSmalls.j0 k a0 a1 t374 t375 t388 t390 t391 0 t364 t365 t368 t369)) = some r := H
 have A11 := Aside0.mk A110
 clear A110
 have HC12 := Aside0.mk H
 clear H
 go_enter Try.func5, Try.ntmps5
 try go_wp2_with (first | ((with_reducible refine gate_callee (f := 11) rfl ?_); refine goesL_ (some 15) rfl rfl Try.func11 (by kernel_rfl) rfl #[] rfl (by (try simp only [List.map_toArray, List.map_cons, List.map_nil]); first | done | rfl | (simp only [List.length_drop, List.length_take]; rfl)) ?_; (with_reducible refine (masklaw4_exacts.calls  true _ A3.out).mono ?_); rintro e w13 ⟨rfl, hb⟩; refine ⟨_, rfl, ?_⟩; replace HB := Aside0.mk (below_step bl hb); (try clear hb)) | ((with_reducible refine gate_callee (f := 27) rfl ?_); refine goesL_ (some 18) rfl rfl Try.func27 (by kernel_rfl) rfl #[.int .i64 a0] rfl (by (try simp only [List.map_toArray, List.map_cons, List.map_nil]); first | done | rfl | (simp only [List.length_drop, List.length_take]; rfl)) ?_; (with_reducible refine (exact_Of.calls a0 t364 t365 _ A5.out).mono ?_); rintro e w14 ⟨v366, rfl, ho0, hb⟩; refine ⟨_, rfl, ?_⟩; have HO367 := Aside0.mk (Kd.V_lower (Kd.V_mono (ok' := fun k_ => True) ho0 (fun k_ hk_ => trivial)) (below_size bl)); replace HB := Aside0.mk (below_step bl hb); (try clear hb); (try clear ho0)) | ((with_reducible refine gate_callee (f := 27) rfl ?_); refine goesL_ (some 20) rfl rfl Try.func27 (by kernel_rfl) rfl #[.int .i64 a1] rfl (by (try simp only [List.map_toArray, List.map_cons, List.map_nil]); first | done | rfl | (simp only [List.length_drop, List.length_take]; rfl)) ?_; (with_reducible refine (exact_Of.calls a1 t368 t369 _ A6.out).mono ?_); rintro e w15 ⟨v370, rfl, ho0, hb⟩; refine ⟨_, rfl, ?_⟩; replace HO367 := Aside0.mk (vb HO367.out hb); have HO371 := Aside0.mk (Kd.V_lower (Kd.V_mono (ok' := fun k_ => True) ho0 (fun k_ hk_ => trivial)) (below_size bl)); replace HB := Aside0.mk (below_step bl hb); (try clear hb); (try clear ho0)) | ((with_reducible refine gate_dst (N := 5) rfl ?_); refine box_event ?hg (N := 5) ?hd (cs := #[.bool false, .slice none 0 0]) (t := 43) ?hr ?_; (case hd => rfl); (case hg => rfl); (case hr => first | (go_simp; done) | (go_simp; rfl)); intro gb372 hg w16 hbox hb; replace HO367 := Aside0.mk (Kd.V_below (Kd.V_elderB (by (with_reducible repeat (first | apply Kd.V_alloc | apply Kd.V_drewN | apply Kd.V_drew)); exact HO367.out) gb372 (Nat.le_of_eq hg.symm)) hb); replace HO371 := Aside0.mk (Kd.V_below (Kd.V_elderB (by (with_reducible repeat (first | apply Kd.V_alloc | apply Kd.V_drewN | apply Kd.V_drew)); exact HO371.out) gb372 (Nat.le_of_eq hg.symm)) hb); have BK372 := Aside0.mk (hbox); have GE372 := Aside0.mk (ge (w := w) hg); replace HB := Aside0.mk (below_step bl hb); clear hb hbox hg) | ((with_reducible refine gate_dst (N := 6) rfl ?_); refine box_event ?hg (N := 6) ?hd (cs := #[.bool false, .slice none 0 0]) (t := 43) ?hr ?_; (case hd => rfl); (case hg => rfl); (case hr => first | (go_simp; done) | (go_simp; rfl)); intro gb373 hg w17 hbox hb; replace HO367 := Aside0.mk (Kd.V_below (Kd.V_elderB (by (with_reducible repeat (first | apply Kd.V_alloc | apply Kd.V_drewN | apply Kd.V_drew)); exact HO367.out) gb373 (Nat.le_of_eq hg.symm)) hb); replace HO371 := Aside0.mk (Kd.V_below (Kd.V_elderB (by (with_reducible repeat (first | apply Kd.V_alloc | apply Kd.V_drewN | apply Kd.V_drew)); exact HO371.out) gb373 (Nat.le_of_eq hg.symm)) hb); have BK373 := Aside0.mk (hbox); have GE373 := Aside0.mk (ge (w := w) hg); replace HB := Aside0.mk (below_step bl hb); have NB372_373 := Aside0.mk (nl hg (bk BK372.out)); have NB373_372 := Aside0.mk (ng hg (bk BK372.out)); replace BK372 := Aside0.mk (bb BK372.out hb); clear hb hbox hg; have hnc18 := NB373_372.out; obtain ⟨hcz19_0, hcz19_1, hfz19_0, hfz19_1⟩ := bz2 BK372.out; obtain ⟨Ao20, co20, eo20⟩ := Kd.V_slice HO367.out; subst eo20; obtain ⟨hcz21_0, hcz21_1, hfz21_0, hfz21_1⟩ := bz2 BK373.out; obtain ⟨Ao22, co22, eo22⟩ := Kd.V_slice HO371.out; subst eo22) | ((with_reducible refine gate_callee (f := 28) rfl ?_); refine goesL_ (some 23) rfl rfl Try.func28 (by kernel_rfl) rfl #[.agg #[.bool t364, .slice Ao20 t365.length co20]] rfl (by (try simp only [List.map_toArray, List.map_cons, List.map_nil]); first | done | rfl | (simp only [List.length_drop, List.length_take]; rfl)) ?_; (with_reducible refine (exact_Small.calls k t364 _ _ t365 t374 t375 _ ?side1 ?side2 A7.out).mono ?_); (case side1 => refine (Kd.V_reads' (e := 97) (base := w.heap.size) (ok := fun k_ => ((True ∧ k_ ≠ gb372) ∧ k_ ≠ gb373)) (n := t365.length) (c := co20) ?_).2.2; exact (by (with_reducible repeat (first | apply Kd.V_alloc | apply Kd.V_drewN | apply Kd.V_drew)); exact (Kd.V_mono (Kd.V_mono (Kd.V_far (p := ⟨gb373, 1, none⟩) (Kd.V_far (p := ⟨gb373, 0, none⟩) (Kd.V_far (p := ⟨gb372, 1, none⟩) (Kd.V_far (p := ⟨gb372, 0, none⟩) (Kd.V_mono (Kd.V_mono HO367.out (fun k_ hk => (⟨hk, hk.1.2⟩ : _ ∧ k_ ≠ gb372))) (fun k_ hk => (⟨hk, hk.1.2⟩ : _ ∧ k_ ≠ gb373))) (fun _ hk => hk.1.2) (.bool t364)) (fun _ hk => hk.1.2) (.slice Ao20 t365.length co20)) (fun _ hk => hk.2) (.bool t368)) (fun _ hk => hk.2) (.slice Ao22 t369.length co22)) (fun _ h_ => h_.1)) (fun _ h_ => h_.1)))); (case side2 => exact (Kd.V_reads' HO367.out).2.1); rintro e w23 ⟨rfl, hb⟩; refine ⟨_, rfl, ?_⟩; replace HO367 := Aside0.mk (Kd.V_below (by (with_reducible repeat (first | apply Kd.V_alloc | apply Kd.V_drewN | apply Kd.V_drew)); exact (Kd.V_mono (Kd.V_mono (Kd.V_far (p := ⟨gb373, 1, none⟩) (Kd.V_far (p := ⟨gb373, 0, none⟩) (Kd.V_far (p := ⟨gb372, 1, none⟩) (Kd.V_far (p := ⟨gb372, 0, none⟩) (Kd.V_mono (Kd.V_mono HO367.out (fun k_ hk => (⟨hk, hk.1.2⟩ : _ ∧ k_ ≠ gb372))) (fun k_ hk => (⟨hk, hk.1.2⟩ : _ ∧ k_ ≠ gb373))) (fun _ hk => hk.1.2) (.bool t364)) (fun _ hk => hk.1.2) (.slice Ao20 t365.length co20)) (fun _ hk => hk.2) (.bool t368)) (fun _ hk => hk.2) (.slice Ao22 t369.length co22)) (fun _ h_ => h_.1)) (fun _ h_ => h_.1))) hb); replace HO371 := Aside0.mk (Kd.V_below (by (with_reducible repeat (first | apply Kd.V_alloc | apply Kd.V_drewN | apply Kd.V_drew)); exact (Kd.V_mono (Kd.V_mono (Kd.V_far (p := ⟨gb373, 1, none⟩) (Kd.V_far (p := ⟨gb373, 0, none⟩) (Kd.V_far (p := ⟨gb372, 1, none⟩) (Kd.V_far (p := ⟨gb372, 0, none⟩) (Kd.V_mono (Kd.V_mono HO371.out (fun k_ hk => (⟨hk, hk.1.2⟩ : _ ∧ k_ ≠ gb372))) (fun k_ hk => (⟨hk, hk.1.2⟩ : _ ∧ k_ ≠ gb373))) (fun _ hk => hk.1.2) (.bool t364)) (fun _ hk => hk.1.2) (.slice Ao20 t365.length co20)) (fun _ hk => hk.2) (.bool t368)) (fun _ hk => hk.2) (.slice Ao22 t369.length co22)) (fun _ h_ => h_.1)) (fun _ h_ => h_.1))) hb); replace BK372 := Aside0.mk (blk_below (g := gb372) (o := .cells #[.bool t364, .slice Ao20 t365.length co20] 43 (0, 0)) (by (with_reducible repeat (first | refine blk_drewN ?_ _ | refine blk_drew ?_ | refine blk_alloc ?_ _)); refine blk_far ?_ NB372_373.out _; (with_reducible repeat (first | refine blk_drewN ?_ _ | refine blk_drew ?_ | refine blk_alloc ?_ _)); refine blk_far ?_ NB372_373.out _; (with_reducible repeat (first | refine blk_drewN ?_ _ | refine blk_drew ?_ | refine blk_alloc ?_ _)); refine blk_put (cs := #[.bool t364, .slice none 0 0]) ?_ 1 _ rfl; (with_reducible repeat (first | refine blk_drewN ?_ _ | refine blk_drew ?_ | refine blk_alloc ?_ _)); refine blk_put (cs := #[.bool false, .slice none 0 0]) ?_ 0 _ rfl; (with_reducible repeat (first | refine blk_drewN ?_ _ | refine blk_drew ?_ | refine blk_alloc ?_ _)); exact BK372.out) hb); replace BK373 := Aside0.mk (blk_below (g := gb373) (o := .cells #[.bool t368, .slice Ao22 t369.length co22] 43 (0, 0)) (by (with_reducible repeat (first | refine blk_drewN ?_ _ | refine blk_drew ?_ | refine blk_alloc ?_ _)); refine blk_put (cs := #[.bool t368, .slice none 0 0]) ?_ 1 _ rfl; (with_reducible repeat (first | refine blk_drewN ?_ _ | refine blk_drew ?_ | refine blk_alloc ?_ _)); refine blk_put (cs := #[.bool false, .slice none 0 0]) ?_ 0 _ rfl; (with_reducible repeat (first | refine blk_drewN ?_ _ | refine blk_drew ?_ | refine blk_alloc ?_ _)); refine blk_far ?_ NB373_372.out _; (with_reducible repeat (first | refine blk_drewN ?_ _ | refine blk_drew ?_ | refine blk_alloc ?_ _)); refine blk_far ?_ NB373_372.out _; (with_reducible repeat (first | refine blk_drewN ?_ _ | refine blk_drew ?_ | refine blk_alloc ?_ _)); exact BK373.out) hb); replace HB := Aside0.mk (below_step bl hb); (try clear hb)))
 have n0_ := Aside0.mk (Kd.V_drew HO367.out)
 have n1_ := Aside0.mk (Kd.V_drew HO371.out)
 have n2_ := Aside0.mk (blk_drew BK372.out)
 have n3_ := Aside0.mk (blk_drew BK373.out)
 have n4_ := Aside0.mk (below_drew1 HB.out)
 clear HO367
 clear HO371
 clear BK372
 clear BK373
 clear HB
 have HO367 := n0_
 have HO371 := n1_
 have BK372 := n2_
 have BK373 := n3_
 have HB := n4_
 clear n0_ n1_ n2_ n3_ n4_
 refine start_ (n := 10) (S := fun w' => w'.cell? ⟨gb373, 0, none⟩ = some (.bool t368) ∧ w'.cell? ⟨gb373, 1, none⟩ = some (.slice Ao22 t369.length co22)) (ds := []) #[false,false,false,false,false,false,false,false,false,false] (by kernel_rfl) rfl rfl ⟨(blk_cell BK373.out 0).trans rfl, (blk_cell BK373.out 1).trans rfl⟩ (fun hHeld => ?_); refine with_tabW masklaw4_ExactSmalls.tab5 masklaw4_ExactSmalls.bits5 (fun HT_ HW_ => ?_)
 generalize w23.drew = w24 at HO367 HO371 BK372 BK373 HB hHeld ⊢
 refine take_ (i := 1) (N := some 28) (v := ?_) (a' := ?_) #[false,true,false,false,false,false,false,false,false,false] rfl rfl (take_ofW HT_.out HW_.out (by kernel_rfl)) (fun _ _ _ h => h) (Or.inl ⟨by rfl, ?_⟩) hHeld ?_ ?_
 rotate_left
 · rintro w' ⟨s0, s1⟩
   go_simp
   with_reducible rfl
 rotate_left; focus (simp only [Act.put, z1, z2, z3, i64_w, i32_w]; rfl)
 refine join_ (σ := Value × Value × Value × Nat) 2 #[true,true,true,true,true,true,true,true,false,false] (fun s_ => [(27, .agg #[.bool t376, s_.1]), (29, .agg #[.bool t380, s_.2.1]), (30, .tuple #[.agg #[.bool t384, s_.2.2.1], .int .i64 t388]), (9, .pointer (some ⟨s_.2.2.2, 0, none⟩)), (26, .tuple #[.agg #[.bool t384, s_.2.2.1], .int .i64 t388]), (31, .agg #[.bool t384, s_.2.2.1]), (32, .int .i64 t388)]) (fun s_ w' => (w'.cell? ⟨gb373, 0, none⟩ = some (.bool t368) ∧ w'.cell? ⟨gb373, 1, none⟩ = some (.slice Ao22 t369.length co22)) ∧ (Kd.V (Kd.int .u32) 97 w' w.heap.size (fun k_ => k_ ≠ gb372 ∧ k_ ≠ gb373 ∧ k_ ≠ s_.2.2.2) (.slice Ao20 t365.length co20) t365) ∧ (Kd.V (Kd.int .u32) 97 w' w.heap.size (fun k_ => k_ ≠ gb372 ∧ k_ ≠ gb373 ∧ k_ ≠ s_.2.2.2) (.slice Ao22 t369.length co22) t369) ∧ (Kd.V (Kd.int .u32) 97 w' w.heap.size (fun k_ => k_ ≠ gb372 ∧ k_ ≠ gb373 ∧ k_ ≠ s_.2.2.2) s_.1 t377) ∧ (Kd.V (Kd.int .u32) 97 w' w.heap.size (fun k_ => k_ ≠ gb372 ∧ k_ ≠ gb373 ∧ k_ ≠ s_.2.2.2) s_.2.1 t381) ∧ (Kd.V (Kd.int .u32) 97 w' w.heap.size (fun k_ => k_ ≠ gb372 ∧ k_ ≠ gb373 ∧ k_ ≠ s_.2.2.2) s_.2.2.1 t385) ∧ (w'.heap[gb372]? = some (.cells #[.bool t364, .slice Ao20 t365.length co20] 43 (0, 0))) ∧ (w'.heap[gb373]? = some (.cells #[.bool t368, .slice Ao22 t369.length co22] 43 (0, 0))) ∧ (w'.heap[s_.2.2.2]? = some (.cells #[.bool false, .slice none 0 0] 43 (0, 0))) ∧ (w.heap.size ≤ s_.2.2.2) ∧ (w.heap.size ≤ s_.2.2.2) ∧ (gb372 ≠ s_.2.2.2) ∧ (s_.2.2.2 ≠ gb372) ∧ (gb373 ≠ s_.2.2.2) ∧ (s_.2.2.2 ≠ gb373) ∧ (Below w.heap.size w w')) ?_ ?_
 rotate_left
 · intro hCont
   refine two_ (i := 0) (j := 7) (Ni := some 27) (Nj := some 9) #[true,true,false,false,false,false,false,false,false,false] #[false,true,false,false,false,false,false,true,false,false] rfl rfl rfl rfl (two_of HT_.out (by kernel_rfl)) (by decide) (by decide) (fun K hK => ?_) (fun K hK => ?_)
   · skip
     refine goes_ Try.func27 (by kernel_rfl) rfl #[.int .i64 9223372036854775807] (by rfl) rfl rfl (by (try simp only [List.map_toArray, List.map_cons, List.map_nil]); first | done | rfl | (simp only [List.length_drop, List.length_take]; rfl)) ?_
     with_reducible refine (exact_Of.calls 9223372036854775807 t376 t377 _ A8.out).mono ?_
     rintro e w25 ⟨v378, rfl, ho0, hb⟩
     refine ⟨_, rfl, ?_⟩
     have n0_ := Aside0.mk (vb HO367.out hb)
     have n1_ := Aside0.mk (vb HO371.out hb)
     have n2_ := Aside0.mk (Kd.V_lower (Kd.V_mono (ok' := fun k_ => k_ ≠ gb372 ∧ k_ ≠ gb373) ho0 (fun k_ hk_ => ⟨(Kd.freshB (g := gb372) (o := .cells #[.bool t364, .slice Ao20 t365.length co20] 43 (0, 0)) (bk BK372.out) k_ hk_), (Kd.freshB (g := gb373) (o := .cells #[.bool t368, .slice Ao22 t369.length co22] 43 (0, 0)) (bk BK373.out) k_ hk_)⟩)) (below_size bl))
     have n3_ := Aside0.mk (bb BK372.out hb)
     have n4_ := Aside0.mk (bb BK373.out hb)
     have n5_ := Aside0.mk (below_step bl hb)
     clear HO367
     clear HO371
     clear BK372
     clear BK373
     clear HB
     have HO367 := n0_
     have HO371 := n1_
     have HO379 := n2_
     have BK372 := n3_
     have BK373 := n4_
     have HB := n5_
     clear n0_ n1_ n2_ n3_ n4_ n5_
     (try clear hb)
     (try clear hb2)
     (try clear hk)
     (try clear hi)
     (try clear ho0)
     refine hK.out _ _ ⟨(blk_cell BK373.out 0).trans rfl, (blk_cell BK373.out 1).trans rfl⟩ (fun hHeld => ?_)
     clear hK K
     refine norm_ (a' := ?_) ?_ ?_
     rotate_left; focus (show Act.put _ (some 27) _ = _; simp only [Act.put, z1, z2, z3, i64_w, i32_w]; rfl)
     refine two_ (i := 2) (j := 7) (Ni := some 29) (Nj := some 9) #[true,true,true,false,false,false,false,false,false,false] #[true,true,false,false,false,false,false,true,false,false] rfl rfl rfl rfl (two_of HT_.out (by kernel_rfl)) (by decide) (by decide) (fun K hK => ?_) (fun K hK => ?_)
     · skip
       refine goes_ Try.func30 (by kernel_rfl) rfl #[.agg #[.bool t368, .slice Ao22 t369.length co22]] (by rfl) rfl rfl (by (try simp only [List.map_toArray, List.map_cons, List.map_nil]); first | done | rfl | (simp only [List.length_drop, List.length_take]; rfl)) ?_
       with_reducible refine (exact_Abs.calls t368 (fun k_ => ((True ∧ k_ ≠ gb372) ∧ k_ ≠ gb373)) _ _ t369 t380 t381 _ ?side1 A9.out).mono ?_
       (case side1 => exact HO371.out)
       rintro e w26 ⟨v382, rfl, ho0, hb⟩
       refine ⟨_, rfl, ?_⟩
       have n0_ := Aside0.mk (vb HO367.out hb)
       have n1_ := Aside0.mk (vb HO371.out hb)
       have n2_ := Aside0.mk (vb HO379.out hb)
       have n3_ := Aside0.mk (Kd.V_lower (Kd.V_mono (ok' := fun k_ => k_ ≠ gb372 ∧ k_ ≠ gb373) ho0 (fun k_ hk_ => ⟨Or.elim hk_ (fun hs_ => hs_.1.2) (fun hn_ => (Kd.freshB (g := gb372) (o := .cells #[.bool t364, .slice Ao20 t365.length co20] 43 (0, 0)) (bk BK372.out) k_ hn_)), Or.elim hk_ (fun hs_ => hs_.2) (fun hn_ => (Kd.freshB (g := gb373) (o := .cells #[.bool t368, .slice Ao22 t369.length co22] 43 (0, 0)) (bk BK373.out) k_ hn_))⟩)) (below_size bl))
       have n4_ := Aside0.mk (bb BK372.out hb)
       have n5_ := Aside0.mk (bb BK373.out hb)
       have n6_ := Aside0.mk (below_step bl hb)
       clear HO367
       clear HO371
       clear HO379
       clear BK372
       clear BK373
       clear HB
       have HO367 := n0_
       have HO371 := n1_
       have HO379 := n2_
       have HO383 := n3_
       have BK372 := n4_
       have BK373 := n5_
       have HB := n6_
       clear n0_ n1_ n2_ n3_ n4_ n5_ n6_
       (try clear hb)
       (try clear hb2)
       (try clear hk)
       (try clear hi)
       (try clear ho0)
       obtain ⟨Ao27, co27, eo27⟩ := Kd.V_slice HO379.out
       (first | subst eo27 | (injection eo27 with f1_ f2_ f3_; have f4_ := f1_.symm; have f5_ := f3_.symm; clear f1_ f2_ f3_; subst f4_; subst f5_))
       obtain ⟨Ao28, co28, eo28⟩ := Kd.V_slice HO383.out
       (first | subst eo28 | (injection eo28 with f1_ f2_ f3_; have f4_ := f1_.symm; have f5_ := f3_.symm; clear f1_ f2_ f3_; subst f4_; subst f5_))
       refine hK.out _ _ ⟨(blk_cell BK373.out 0).trans rfl, (blk_cell BK373.out 1).trans rfl⟩ (fun hHeld => ?_)
       clear hK K
       refine norm_ (a' := ?_) ?_ ?_
       rotate_left; focus (show Act.put _ (some 29) _ = _; simp only [Act.put, z1, z2, z3, i64_w, i32_w]; rfl)
       refine two_ (i := 3) (j := 7) (Ni := some 30) (Nj := some 9) #[true,true,true,true,false,false,false,false,false,false] #[true,true,true,false,false,false,false,true,false,false] rfl rfl rfl rfl (two_of HT_.out (by kernel_rfl)) (by decide) (by decide) (fun K hK => ?_) (fun K hK => ?_)
       · skip
         refine goes_ Try.func29 (by kernel_rfl) rfl #[.agg #[.bool t376, .slice Ao27 t377.length co27], .agg #[.bool t380, .slice Ao28 t381.length co28]] (by rfl) rfl rfl (by (try simp only [List.map_toArray, List.map_cons, List.map_nil]); first | done | rfl | (simp only [List.length_drop, List.length_take]; rfl)) ?_
         with_reducible refine (exact_Add.calls k t376 _ _ t377 t380 _ _ t381 t384 t385 t388 _ ?side1 ?side2 ?side3 ?side4 A10.out).mono ?_
         (case side1 => exact kc ((Kd.V_reads' HO379.out).2.2))
         (case side2 => exact (Kd.V_reads' HO379.out).2.1)
         (case side3 => exact kc ((Kd.V_reads' HO383.out).2.2))
         (case side4 => exact (Kd.V_reads' HO383.out).2.1)
         rintro e w29 ⟨v386, rfl, ho0, hb⟩
         refine ⟨_, rfl, ?_⟩
         have n0_ := Aside0.mk (vb HO367.out hb)
         have n1_ := Aside0.mk (vb HO371.out hb)
         have n2_ := Aside0.mk (vb HO379.out hb)
         have n3_ := Aside0.mk (vb HO383.out hb)
         have n4_ := Aside0.mk (Kd.V_lower (Kd.V_mono (ok' := fun k_ => k_ ≠ gb372 ∧ k_ ≠ gb373) ho0 (fun k_ hk_ => ⟨(Kd.freshB (g := gb372) (o := .cells #[.bool t364, .slice Ao20 t365.length co20] 43 (0, 0)) (bk BK372.out) k_ hk_), (Kd.freshB (g := gb373) (o := .cells #[.bool t368, .slice Ao22 t369.length co22] 43 (0, 0)) (bk BK373.out) k_ hk_)⟩)) (below_size bl))
         have n5_ := Aside0.mk (bb BK372.out hb)
         have n6_ := Aside0.mk (bb BK373.out hb)
         have n7_ := Aside0.mk (below_step bl hb)
         clear HO367
         clear HO371
         clear HO379
         clear HO383
         clear BK372
         clear BK373
         clear HB
         have HO367 := n0_
         have HO371 := n1_
         have HO379 := n2_
         have HO383 := n3_
         have HO387 := n4_
         have BK372 := n5_
         have BK373 := n6_
         have HB := n7_
         clear n0_ n1_ n2_ n3_ n4_ n5_ n6_ n7_
         (try clear hb)
         (try clear hb2)
         (try clear hk)
         (try clear hi)
         (try clear ho0)
         refine hK.out _ _ ⟨(blk_cell BK373.out 0).trans rfl, (blk_cell BK373.out 1).trans rfl⟩ (fun hHeld => ?_)
         clear hK K
         refine norm_ (a' := ?_) ?_ ?_
         rotate_left; focus (show Act.put _ (some 30) _ = _; simp only [Act.put, z1, z2, z3, i64_w, i32_w]; rfl)
         refine pure_ (i := 4) (N := some 26) (v := ?_) (a' := ?_) #[true,true,true,true,true,false,false,false,false,false] rfl rfl (any_of HT_.out (by kernel_rfl)) (fun _ _ _ h => h) (Or.inl ⟨by rfl, ?_⟩) ?_ ?_
         rotate_left; focus (intro w'; go_simp; with_reducible rfl)
         rotate_left; focus (simp only [Act.put, z1, z2, z3, i64_w, i32_w]; rfl)
         refine pure_ (i := 5) (N := some 31) (v := ?_) (a' := ?_) #[true,true,true,true,true,true,false,false,false,false] rfl rfl (any_of HT_.out (by kernel_rfl)) (fun _ _ _ h => h) (Or.inl ⟨by rfl, ?_⟩) ?_ ?_
         rotate_left; focus (intro w'; go_simp; with_reducible rfl)
         rotate_left; focus (simp only [Act.put, z1, z2, z3, i64_w, i32_w]; rfl)
         refine pure_ (i := 6) (N := some 32) (v := ?_) (a' := ?_) #[true,true,true,true,true,true,true,false,false,false] rfl rfl (any_of HT_.out (by kernel_rfl)) (fun _ _ _ h => h) (Or.inl ⟨by rfl, ?_⟩) ?_ ?_
         rotate_left; focus (intro w'; go_simp; with_reducible rfl)
         rotate_left; focus (simp only [Act.put, z1, z2, z3, i64_w, i32_w]; rfl)
         refine one_ (i := 7) (N := some 9) #[true,true,true,true,true,true,true,true,false,false] rfl rfl (one_of HT_.out (by kernel_rfl)) (by decide) (fun K hK => ?_)
         refine box_step ?hg (N := 9) ?hd (cs := #[.bool false, .slice none 0 0]) (t := 43) ?hr ?_; (case hd => rfl); (case hg => rfl); (case hr => first | (go_simp; done) | (go_simp; rfl))
         intro gb389 hg w30 hbox hb
         have n0_ := Aside0.mk (Kd.V_below (Kd.V_elderB (by (with_reducible repeat (first | apply Kd.V_alloc | apply Kd.V_drewN | apply Kd.V_drew)); exact HO367.out) gb389 (Nat.le_of_eq hg.symm)) hb)
         have n1_ := Aside0.mk (Kd.V_below (Kd.V_elderB (by (with_reducible repeat (first | apply Kd.V_alloc | apply Kd.V_drewN | apply Kd.V_drew)); exact HO371.out) gb389 (Nat.le_of_eq hg.symm)) hb)
         have n2_ := Aside0.mk (Kd.V_below (Kd.V_elderB (by (with_reducible repeat (first | apply Kd.V_alloc | apply Kd.V_drewN | apply Kd.V_drew)); exact HO379.out) gb389 (Nat.le_of_eq hg.symm)) hb)
         have n3_ := Aside0.mk (Kd.V_below (Kd.V_elderB (by (with_reducible repeat (first | apply Kd.V_alloc | apply Kd.V_drewN | apply Kd.V_drew)); exact HO383.out) gb389 (Nat.le_of_eq hg.symm)) hb)
         have n4_ := Aside0.mk (Kd.V_below (Kd.V_elderB (by (with_reducible repeat (first | apply Kd.V_alloc | apply Kd.V_drewN | apply Kd.V_drew)); exact HO387.out) gb389 (Nat.le_of_eq hg.symm)) hb)
         have n5_ := Aside0.mk (bb BK372.out hb)
         have n6_ := Aside0.mk (bb BK373.out hb)
         have n7_ := Aside0.mk (below_step bl hb)
         have n8_ := Aside0.mk (hbox)
         have n9_ := Aside0.mk (ge (w := w) hg)
         have n10_ := Aside0.mk (ge (w := w) hg)
         have n11_ := Aside0.mk (nl hg (bk BK372.out))
         have n12_ := Aside0.mk (ng hg (bk BK372.out))
         have n13_ := Aside0.mk (nl hg (bk BK373.out))
         have n14_ := Aside0.mk (ng hg (bk BK373.out))
         clear HO367
         clear HO371
         clear HO379
         clear HO383
         clear HO387
         clear BK372
         clear BK373
         clear HB
         have HO367 := n0_
         have HO371 := n1_
         have HO379 := n2_
         have HO383 := n3_
         have HO387 := n4_
         have BK372 := n5_
         have BK373 := n6_
         have HB := n7_
         have BK389 := n8_
         have GW389 := n9_
         have GE389 := n10_
         have NB372_389 := n11_
         have NB389_372 := n12_
         have NB373_389 := n13_
         have NB389_373 := n14_
         clear n0_ n1_ n2_ n3_ n4_ n5_ n6_ n7_ n8_ n9_ n10_ n11_ n12_ n13_ n14_
         clear hb hbox hg
         refine hK.out _ _ ⟨(blk_cell BK373.out 0).trans rfl, (blk_cell BK373.out 1).trans rfl⟩ (fun hHeld => ?_)
         clear hK K
         refine norm_ (a' := ?_) ?_ ?_
         rotate_left; focus (show Act.put _ (some 9) _ = _; simp only [Act.put, z1, z2, z3, i64_w, i32_w]; rfl)
         exact norm_ (by simp only [putAll, Act.put, z1, z2, z3]) (hCont (.slice Ao27 t377.length co27, .slice Ao28 t381.length co28, v386, gb389) _ ⟨hHeld, (by (with_reducible repeat (first | apply Kd.V_alloc | apply Kd.V_drewN | apply Kd.V_drew)); exact Kd.V_mono HO367.out (fun _ hk => ⟨hk.1.1.2, ⟨hk.1.2, hk.2⟩⟩)), (by (with_reducible repeat (first | apply Kd.V_alloc | apply Kd.V_drewN | apply Kd.V_drew)); exact Kd.V_mono HO371.out (fun _ hk => ⟨hk.1.1.2, ⟨hk.1.2, hk.2⟩⟩)), (by (with_reducible repeat (first | apply Kd.V_alloc | apply Kd.V_drewN | apply Kd.V_drew)); exact Kd.V_mono HO379.out (fun _ hk => ⟨hk.1.1, ⟨hk.1.2, hk.2⟩⟩)), (by (with_reducible repeat (first | apply Kd.V_alloc | apply Kd.V_drewN | apply Kd.V_drew)); exact Kd.V_mono HO383.out (fun _ hk => ⟨hk.1.1, ⟨hk.1.2, hk.2⟩⟩)), (by (with_reducible repeat (first | apply Kd.V_alloc | apply Kd.V_drewN | apply Kd.V_drew)); exact Kd.V_mono HO387.out (fun _ hk => ⟨hk.1.1, ⟨hk.1.2, hk.2⟩⟩)), (bk BK372.out), (bk BK373.out), (bk BK389.out), GW389.out, GE389.out, NB372_389.out, NB389_372.out, NB373_389.out, NB389_373.out, bl⟩)
       skip
       refine box_step ?hg (N := 9) ?hd (cs := #[.bool false, .slice none 0 0]) (t := 43) ?hr ?_; (case hd => rfl); (case hg => rfl); (case hr => first | (go_simp; done) | (go_simp; rfl))
       intro gb389 hg w27 hbox hb
       have n0_ := Aside0.mk (Kd.V_below (Kd.V_elderB (by (with_reducible repeat (first | apply Kd.V_alloc | apply Kd.V_drewN | apply Kd.V_drew)); exact HO367.out) gb389 (Nat.le_of_eq hg.symm)) hb)
       have n1_ := Aside0.mk (Kd.V_below (Kd.V_elderB (by (with_reducible repeat (first | apply Kd.V_alloc | apply Kd.V_drewN | apply Kd.V_drew)); exact HO371.out) gb389 (Nat.le_of_eq hg.symm)) hb)
       have n2_ := Aside0.mk (Kd.V_below (Kd.V_elderB (by (with_reducible repeat (first | apply Kd.V_alloc | apply Kd.V_drewN | apply Kd.V_drew)); exact HO379.out) gb389 (Nat.le_of_eq hg.symm)) hb)
       have n3_ := Aside0.mk (Kd.V_below (Kd.V_elderB (by (with_reducible repeat (first | apply Kd.V_alloc | apply Kd.V_drewN | apply Kd.V_drew)); exact HO383.out) gb389 (Nat.le_of_eq hg.symm)) hb)
       have n4_ := Aside0.mk (bb BK372.out hb)
       have n5_ := Aside0.mk (bb BK373.out hb)
       have n6_ := Aside0.mk (below_step bl hb)
       have n7_ := Aside0.mk (hbox)
       have n8_ := Aside0.mk (ge (w := w) hg)
       have n9_ := Aside0.mk (ge (w := w) hg)
       have n10_ := Aside0.mk (nl hg (bk BK372.out))
       have n11_ := Aside0.mk (ng hg (bk BK372.out))
       have n12_ := Aside0.mk (nl hg (bk BK373.out))
       have n13_ := Aside0.mk (ng hg (bk BK373.out))
       clear HO367
       clear HO371
       clear HO379
       clear HO383
       clear BK372
       clear BK373
       clear HB
       have HO367 := n0_
       have HO371 := n1_
       have HO379 := n2_
       have HO383 := n3_
       have BK372 := n4_
       have BK373 := n5_
       have HB := n6_
       have BK389 := n7_
       have GW389 := n8_
       have GE389 := n9_
       have NB372_389 := n10_
       have NB389_372 := n11_
       have NB373_389 := n12_
       have NB389_373 := n13_
       clear n0_ n1_ n2_ n3_ n4_ n5_ n6_ n7_ n8_ n9_ n10_ n11_ n12_ n13_
       clear hb hbox hg
       obtain ⟨Ao28, co28, eo28⟩ := Kd.V_slice HO379.out
       (first | subst eo28 | (injection eo28 with f1_ f2_ f3_; have f4_ := f1_.symm; have f5_ := f3_.symm; clear f1_ f2_ f3_; subst f4_; subst f5_))
       obtain ⟨Ao29, co29, eo29⟩ := Kd.V_slice HO383.out
       (first | subst eo29 | (injection eo29 with f1_ f2_ f3_; have f4_ := f1_.symm; have f5_ := f3_.symm; clear f1_ f2_ f3_; subst f4_; subst f5_))
       refine hK.out _ _ ⟨(blk_cell BK373.out 0).trans rfl, (blk_cell BK373.out 1).trans rfl⟩ (fun hHeld => ?_)
       clear hK K
       refine norm_ (a' := ?_) ?_ ?_
       rotate_left; focus (show Act.put _ (some 9) _ = _; simp only [Act.put, z1, z2, z3, i64_w, i32_w]; rfl)
       refine one_ (i := 3) (N := some 30) #[true,true,true,true,false,false,false,true,false,false] rfl rfl (one_of HT_.out (by kernel_rfl)) (by decide) (fun K hK => ?_)
       refine goes_ Try.func29 (by kernel_rfl) rfl #[.agg #[.bool t376, .slice Ao28 t377.length co28], .agg #[.bool t380, .slice Ao29 t381.length co29]] (by rfl) rfl rfl (by (try simp only [List.map_toArray, List.map_cons, List.map_nil]); first | done | rfl | (simp only [List.length_drop, List.length_take]; rfl)) ?_
       with_reducible refine (exact_Add.calls k t376 _ _ t377 t380 _ _ t381 t384 t385 t388 _ ?side1 ?side2 ?side3 ?side4 A10.out).mono ?_
       (case side1 => exact kc ((Kd.V_reads' HO379.out).2.2))
       (case side2 => exact (Kd.V_reads' HO379.out).2.1)
       (case side3 => exact kc ((Kd.V_reads' HO383.out).2.2))
       (case side4 => exact (Kd.V_reads' HO383.out).2.1)
       rintro e w30 ⟨v386, rfl, ho0, hb⟩
       refine ⟨_, rfl, ?_⟩
       have n0_ := Aside0.mk (vb HO367.out hb)
       have n1_ := Aside0.mk (vb HO371.out hb)
       have n2_ := Aside0.mk (vb HO379.out hb)
       have n3_ := Aside0.mk (vb HO383.out hb)
       have n4_ := Aside0.mk (Kd.V_lower (Kd.V_mono (ok' := fun k_ => k_ ≠ gb372 ∧ k_ ≠ gb373 ∧ k_ ≠ gb389) ho0 (fun k_ hk_ => ⟨(Kd.freshB (g := gb372) (o := .cells #[.bool t364, .slice Ao20 t365.length co20] 43 (0, 0)) (bk BK372.out) k_ hk_), (Kd.freshB (g := gb373) (o := .cells #[.bool t368, .slice Ao22 t369.length co22] 43 (0, 0)) (bk BK373.out) k_ hk_), (Kd.freshB (g := gb389) (o := .cells #[.bool false, .slice none 0 0] 43 (0, 0)) (bk BK389.out) k_ hk_)⟩)) (below_size bl))
       have n5_ := Aside0.mk (bb BK372.out hb)
       have n6_ := Aside0.mk (bb BK373.out hb)
       have n7_ := Aside0.mk (bb BK389.out hb)
       have n8_ := Aside0.mk (below_step bl hb)
       clear HO367
       clear HO371
       clear HO379
       clear HO383
       clear BK372
       clear BK373
       clear BK389
       clear HB
       have HO367 := n0_
       have HO371 := n1_
       have HO379 := n2_
       have HO383 := n3_
       have HO387 := n4_
       have BK372 := n5_
       have BK373 := n6_
       have BK389 := n7_
       have HB := n8_
       clear n0_ n1_ n2_ n3_ n4_ n5_ n6_ n7_ n8_
       (try clear hb)
       (try clear hb2)
       (try clear hk)
       (try clear hi)
       (try clear ho0)
       refine hK.out _ _ ⟨(blk_cell BK373.out 0).trans rfl, (blk_cell BK373.out 1).trans rfl⟩ (fun hHeld => ?_)
       clear hK K
       refine norm_ (a' := ?_) ?_ ?_
       rotate_left; focus (show Act.put _ (some 30) _ = _; simp only [Act.put, z1, z2, z3, i64_w, i32_w]; rfl)
       refine pure_ (i := 4) (N := some 26) (v := ?_) (a' := ?_) #[true,true,true,true,true,false,false,true,false,false] rfl rfl (any_of HT_.out (by kernel_rfl)) (fun _ _ _ h => h) (Or.inl ⟨by rfl, ?_⟩) ?_ ?_
       rotate_left; focus (intro w'; go_simp; with_reducible rfl)
       rotate_left; focus (simp only [Act.put, z1, z2, z3, i64_w, i32_w]; rfl)
       refine pure_ (i := 5) (N := some 31) (v := ?_) (a' := ?_) #[true,true,true,true,true,true,false,true,false,false] rfl rfl (any_of HT_.out (by kernel_rfl)) (fun _ _ _ h => h) (Or.inl ⟨by rfl, ?_⟩) ?_ ?_
       rotate_left; focus (intro w'; go_simp; with_reducible rfl)
       rotate_left; focus (simp only [Act.put, z1, z2, z3, i64_w, i32_w]; rfl)
       refine pure_ (i := 6) (N := some 32) (v := ?_) (a' := ?_) #[true,true,true,true,true,true,true,true,false,false] rfl rfl (any_of HT_.out (by kernel_rfl)) (fun _ _ _ h => h) (Or.inl ⟨by rfl, ?_⟩) ?_ ?_
       rotate_left; focus (intro w'; go_simp; with_reducible rfl)
       rotate_left; focus (simp only [Act.put, z1, z2, z3, i64_w, i32_w]; rfl)
       exact norm_ (by simp only [putAll, Act.put, z1, z2, z3]) (hCont (.slice Ao28 t377.length co28, .slice Ao29 t381.length co29, v386, gb389) _ ⟨hHeld, (by (with_reducible repeat (first | apply Kd.V_alloc | apply Kd.V_drewN | apply Kd.V_drew)); exact Kd.V_mono HO367.out (fun _ hk => ⟨hk.1.1.2, ⟨hk.1.2, hk.2⟩⟩)), (by (with_reducible repeat (first | apply Kd.V_alloc | apply Kd.V_drewN | apply Kd.V_drew)); exact Kd.V_mono HO371.out (fun _ hk => ⟨hk.1.1.2, ⟨hk.1.2, hk.2⟩⟩)), (by (with_reducible repeat (first | apply Kd.V_alloc | apply Kd.V_drewN | apply Kd.V_drew)); exact Kd.V_mono HO379.out (fun _ hk => ⟨hk.1.1, ⟨hk.1.2, hk.2⟩⟩)), (by (with_reducible repeat (first | apply Kd.V_alloc | apply Kd.V_drewN | apply Kd.V_drew)); exact Kd.V_mono HO383.out (fun _ hk => ⟨hk.1.1, ⟨hk.1.2, hk.2⟩⟩)), (by (with_reducible repeat (first | apply Kd.V_alloc | apply Kd.V_drewN | apply Kd.V_drew)); exact HO387.out), (bk BK372.out), (bk BK373.out), (bk BK389.out), GW389.out, GE389.out, NB372_389.out, NB389_372.out, NB373_389.out, NB389_373.out, bl⟩)
     skip
     refine box_step ?hg (N := 9) ?hd (cs := #[.bool false, .slice none 0 0]) (t := 43) ?hr ?_; (case hd => rfl); (case hg => rfl); (case hr => first | (go_simp; done) | (go_simp; rfl))
     intro gb389 hg w26 hbox hb
     have n0_ := Aside0.mk (Kd.V_below (Kd.V_elderB (by (with_reducible repeat (first | apply Kd.V_alloc | apply Kd.V_drewN | apply Kd.V_drew)); exact HO367.out) gb389 (Nat.le_of_eq hg.symm)) hb)
     have n1_ := Aside0.mk (Kd.V_below (Kd.V_elderB (by (with_reducible repeat (first | apply Kd.V_alloc | apply Kd.V_drewN | apply Kd.V_drew)); exact HO371.out) gb389 (Nat.le_of_eq hg.symm)) hb)
     have n2_ := Aside0.mk (Kd.V_below (Kd.V_elderB (by (with_reducible repeat (first | apply Kd.V_alloc | apply Kd.V_drewN | apply Kd.V_drew)); exact HO379.out) gb389 (Nat.le_of_eq hg.symm)) hb)
     have n3_ := Aside0.mk (bb BK372.out hb)
     have n4_ := Aside0.mk (bb BK373.out hb)
     have n5_ := Aside0.mk (below_step bl hb)
     have n6_ := Aside0.mk (hbox)
     have n7_ := Aside0.mk (ge (w := w) hg)
     have n8_ := Aside0.mk (ge (w := w) hg)
     have n9_ := Aside0.mk (nl hg (bk BK372.out))
     have n10_ := Aside0.mk (ng hg (bk BK372.out))
     have n11_ := Aside0.mk (nl hg (bk BK373.out))
     have n12_ := Aside0.mk (ng hg (bk BK373.out))
     clear HO367
     clear HO371
     clear HO379
     clear BK372
     clear BK373
     clear HB
     have HO367 := n0_
     have HO371 := n1_
     have HO379 := n2_
     have BK372 := n3_
     have BK373 := n4_
     have HB := n5_
     have BK389 := n6_
     have GW389 := n7_
     have GE389 := n8_
     have NB372_389 := n9_
     have NB389_372 := n10_
     have NB373_389 := n11_
     have NB389_373 := n12_
     clear n0_ n1_ n2_ n3_ n4_ n5_ n6_ n7_ n8_ n9_ n10_ n11_ n12_
     clear hb hbox hg
     refine hK.out _ _ ⟨(blk_cell BK373.out 0).trans rfl, (blk_cell BK373.out 1).trans rfl⟩ (fun hHeld => ?_)
     clear hK K
     refine norm_ (a' := ?_) ?_ ?_
     rotate_left; focus (show Act.put _ (some 9) _ = _; simp only [Act.put, z1, z2, z3, i64_w, i32_w]; rfl)
     refine one_ (i := 2) (N := some 29) #[true,true,true,false,false,false,false,true,false,false] rfl rfl (one_of HT_.out (by kernel_rfl)) (by decide) (fun K hK => ?_)
     refine goes_ Try.func30 (by kernel_rfl) rfl #[.agg #[.bool t368, .slice Ao22 t369.length co22]] (by rfl) rfl rfl (by (try simp only [List.map_toArray, List.map_cons, List.map_nil]); first | done | rfl | (simp only [List.length_drop, List.length_take]; rfl)) ?_
     with_reducible refine (exact_Abs.calls t368 (fun k_ => (((True ∧ k_ ≠ gb372) ∧ k_ ≠ gb373) ∧ k_ ≠ gb389)) _ _ t369 t380 t381 _ ?side1 A9.out).mono ?_
     (case side1 => exact HO371.out)
     rintro e w27 ⟨v382, rfl, ho0, hb⟩
     refine ⟨_, rfl, ?_⟩
     have n0_ := Aside0.mk (vb HO367.out hb)
     have n1_ := Aside0.mk (vb HO371.out hb)
     have n2_ := Aside0.mk (vb HO379.out hb)
     have n3_ := Aside0.mk (Kd.V_lower (Kd.V_mono (ok' := fun k_ => k_ ≠ gb372 ∧ k_ ≠ gb373 ∧ k_ ≠ gb389) ho0 (fun k_ hk_ => ⟨Or.elim hk_ (fun hs_ => hs_.1.1.2) (fun hn_ => (Kd.freshB (g := gb372) (o := .cells #[.bool t364, .slice Ao20 t365.length co20] 43 (0, 0)) (bk BK372.out) k_ hn_)), Or.elim hk_ (fun hs_ => hs_.1.2) (fun hn_ => (Kd.freshB (g := gb373) (o := .cells #[.bool t368, .slice Ao22 t369.length co22] 43 (0, 0)) (bk BK373.out) k_ hn_)), Or.elim hk_ (fun hs_ => hs_.2) (fun hn_ => (Kd.freshB (g := gb389) (o := .cells #[.bool false, .slice none 0 0] 43 (0, 0)) (bk BK389.out) k_ hn_))⟩)) (below_size bl))
     have n4_ := Aside0.mk (bb BK372.out hb)
     have n5_ := Aside0.mk (bb BK373.out hb)
     have n6_ := Aside0.mk (bb BK389.out hb)
     have n7_ := Aside0.mk (below_step bl hb)
     clear HO367
     clear HO371
     clear HO379
     clear BK372
     clear BK373
     clear BK389
     clear HB
     have HO367 := n0_
     have HO371 := n1_
     have HO379 := n2_
     have HO383 := n3_
     have BK372 := n4_
     have BK373 := n5_
     have BK389 := n6_
     have HB := n7_
     clear n0_ n1_ n2_ n3_ n4_ n5_ n6_ n7_
     (try clear hb)
     (try clear hb2)
     (try clear hk)
     (try clear hi)
     (try clear ho0)
     obtain ⟨Ao28, co28, eo28⟩ := Kd.V_slice HO379.out
     (first | subst eo28 | (injection eo28 with f1_ f2_ f3_; have f4_ := f1_.symm; have f5_ := f3_.symm; clear f1_ f2_ f3_; subst f4_; subst f5_))
     obtain ⟨Ao29, co29, eo29⟩ := Kd.V_slice HO383.out
     (first | subst eo29 | (injection eo29 with f1_ f2_ f3_; have f4_ := f1_.symm; have f5_ := f3_.symm; clear f1_ f2_ f3_; subst f4_; subst f5_))
     refine hK.out _ _ ⟨(blk_cell BK373.out 0).trans rfl, (blk_cell BK373.out 1).trans rfl⟩ (fun hHeld => ?_)
     clear hK K
     refine norm_ (a' := ?_) ?_ ?_
     rotate_left; focus (show Act.put _ (some 29) _ = _; simp only [Act.put, z1, z2, z3, i64_w, i32_w]; rfl)
     refine one_ (i := 3) (N := some 30) #[true,true,true,true,false,false,false,true,false,false] rfl rfl (one_of HT_.out (by kernel_rfl)) (by decide) (fun K hK => ?_)
     refine goes_ Try.func29 (by kernel_rfl) rfl #[.agg #[.bool t376, .slice Ao28 t377.length co28], .agg #[.bool t380, .slice Ao29 t381.length co29]] (by rfl) rfl rfl (by (try simp only [List.map_toArray, List.map_cons, List.map_nil]); first | done | rfl | (simp only [List.length_drop, List.length_take]; rfl)) ?_
     with_reducible refine (exact_Add.calls k t376 _ _ t377 t380 _ _ t381 t384 t385 t388 _ ?side1 ?side2 ?side3 ?side4 A10.out).mono ?_
     (case side1 => exact kc ((Kd.V_reads' HO379.out).2.2))
     (case side2 => exact (Kd.V_reads' HO379.out).2.1)
     (case side3 => exact kc ((Kd.V_reads' HO383.out).2.2))
     (case side4 => exact (Kd.V_reads' HO383.out).2.1)
     rintro e w30 ⟨v386, rfl, ho0, hb⟩
     refine ⟨_, rfl, ?_⟩
     have n0_ := Aside0.mk (vb HO367.out hb)
     have n1_ := Aside0.mk (vb HO371.out hb)
     have n2_ := Aside0.mk (vb HO379.out hb)
     have n3_ := Aside0.mk (vb HO383.out hb)
     have n4_ := Aside0.mk (Kd.V_lower (Kd.V_mono (ok' := fun k_ => k_ ≠ gb372 ∧ k_ ≠ gb373 ∧ k_ ≠ gb389) ho0 (fun k_ hk_ => ⟨(Kd.freshB (g := gb372) (o := .cells #[.bool t364, .slice Ao20 t365.length co20] 43 (0, 0)) (bk BK372.out) k_ hk_), (Kd.freshB (g := gb373) (o := .cells #[.bool t368, .slice Ao22 t369.length co22] 43 (0, 0)) (bk BK373.out) k_ hk_), (Kd.freshB (g := gb389) (o := .cells #[.bool false, .slice none 0 0] 43 (0, 0)) (bk BK389.out) k_ hk_)⟩)) (below_size bl))
     have n5_ := Aside0.mk (bb BK372.out hb)
     have n6_ := Aside0.mk (bb BK373.out hb)
     have n7_ := Aside0.mk (bb BK389.out hb)
     have n8_ := Aside0.mk (below_step bl hb)
     clear HO367
     clear HO371
     clear HO379
     clear HO383
     clear BK372
     clear BK373
     clear BK389
     clear HB
     have HO367 := n0_
     have HO371 := n1_
     have HO379 := n2_
     have HO383 := n3_
     have HO387 := n4_
     have BK372 := n5_
     have BK373 := n6_
     have BK389 := n7_
     have HB := n8_
     clear n0_ n1_ n2_ n3_ n4_ n5_ n6_ n7_ n8_
     (try clear hb)
     (try clear hb2)
     (try clear hk)
     (try clear hi)
     (try clear ho0)
     refine hK.out _ _ ⟨(blk_cell BK373.out 0).trans rfl, (blk_cell BK373.out 1).trans rfl⟩ (fun hHeld => ?_)
     clear hK K
     refine norm_ (a' := ?_) ?_ ?_
     rotate_left; focus (show Act.put _ (some 30) _ = _; simp only [Act.put, z1, z2, z3, i64_w, i32_w]; rfl)
     refine pure_ (i := 4) (N := some 26) (v := ?_) (a' := ?_) #[true,true,true,true,true,false,false,true,false,false] rfl rfl (any_of HT_.out (by kernel_rfl)) (fun _ _ _ h => h) (Or.inl ⟨by rfl, ?_⟩) ?_ ?_
     rotate_left; focus (intro w'; go_simp; with_reducible rfl)
     rotate_left; focus (simp only [Act.put, z1, z2, z3, i64_w, i32_w]; rfl)
     refine pure_ (i := 5) (N := some 31) (v := ?_) (a' := ?_) #[true,true,true,true,true,true,false,true,false,false] rfl rfl (any_of HT_.out (by kernel_rfl)) (fun _ _ _ h => h) (Or.inl ⟨by rfl, ?_⟩) ?_ ?_
     rotate_left; focus (intro w'; go_simp; with_reducible rfl)
     rotate_left; focus (simp only [Act.put, z1, z2, z3, i64_w, i32_w]; rfl)
     refine pure_ (i := 6) (N := some 32) (v := ?_) (a' := ?_) #[true,true,true,true,true,true,true,true,false,false] rfl rfl (any_of HT_.out (by kernel_rfl)) (fun _ _ _ h => h) (Or.inl ⟨by rfl, ?_⟩) ?_ ?_
     rotate_left; focus (intro w'; go_simp; with_reducible rfl)
     rotate_left; focus (simp only [Act.put, z1, z2, z3, i64_w, i32_w]; rfl)
     exact norm_ (by simp only [putAll, Act.put, z1, z2, z3]) (hCont (.slice Ao28 t377.length co28, .slice Ao29 t381.length co29, v386, gb389) _ ⟨hHeld, (by (with_reducible repeat (first | apply Kd.V_alloc | apply Kd.V_drewN | apply Kd.V_drew)); exact Kd.V_mono HO367.out (fun _ hk => ⟨hk.1.1.2, ⟨hk.1.2, hk.2⟩⟩)), (by (with_reducible repeat (first | apply Kd.V_alloc | apply Kd.V_drewN | apply Kd.V_drew)); exact Kd.V_mono HO371.out (fun _ hk => ⟨hk.1.1.2, ⟨hk.1.2, hk.2⟩⟩)), (by (with_reducible repeat (first | apply Kd.V_alloc | apply Kd.V_drewN | apply Kd.V_drew)); exact Kd.V_mono HO379.out (fun _ hk => ⟨hk.1.1, ⟨hk.1.2, hk.2⟩⟩)), (by (with_reducible repeat (first | apply Kd.V_alloc | apply Kd.V_drewN | apply Kd.V_drew)); exact HO383.out), (by (with_reducible repeat (first | apply Kd.V_alloc | apply Kd.V_drewN | apply Kd.V_drew)); exact HO387.out), (bk BK372.out), (bk BK373.out), (bk BK389.out), GW389.out, GE389.out, NB372_389.out, NB389_372.out, NB373_389.out, NB389_373.out, bl⟩)
   skip
   refine box_step ?hg (N := 9) ?hd (cs := #[.bool false, .slice none 0 0]) (t := 43) ?hr ?_; (case hd => rfl); (case hg => rfl); (case hr => first | (go_simp; done) | (go_simp; rfl))
   intro gb389 hg w25 hbox hb
   have n0_ := Aside0.mk (Kd.V_below (Kd.V_elderB (by (with_reducible repeat (first | apply Kd.V_alloc | apply Kd.V_drewN | apply Kd.V_drew)); exact HO367.out) gb389 (Nat.le_of_eq hg.symm)) hb)
   have n1_ := Aside0.mk (Kd.V_below (Kd.V_elderB (by (with_reducible repeat (first | apply Kd.V_alloc | apply Kd.V_drewN | apply Kd.V_drew)); exact HO371.out) gb389 (Nat.le_of_eq hg.symm)) hb)
   have n2_ := Aside0.mk (bb BK372.out hb)
   have n3_ := Aside0.mk (bb BK373.out hb)
   have n4_ := Aside0.mk (below_step bl hb)
   have n5_ := Aside0.mk (hbox)
   have n6_ := Aside0.mk (ge (w := w) hg)
   have n7_ := Aside0.mk (ge (w := w) hg)
   have n8_ := Aside0.mk (nl hg (bk BK372.out))
   have n9_ := Aside0.mk (ng hg (bk BK372.out))
   have n10_ := Aside0.mk (nl hg (bk BK373.out))
   have n11_ := Aside0.mk (ng hg (bk BK373.out))
   clear HO367
   clear HO371
   clear BK372
   clear BK373
   clear HB
   have HO367 := n0_
   have HO371 := n1_
   have BK372 := n2_
   have BK373 := n3_
   have HB := n4_
   have BK389 := n5_
   have GW389 := n6_
   have GE389 := n7_
   have NB372_389 := n8_
   have NB389_372 := n9_
   have NB373_389 := n10_
   have NB389_373 := n11_
   clear n0_ n1_ n2_ n3_ n4_ n5_ n6_ n7_ n8_ n9_ n10_ n11_
   clear hb hbox hg
   refine hK.out _ _ ⟨(blk_cell BK373.out 0).trans rfl, (blk_cell BK373.out 1).trans rfl⟩ (fun hHeld => ?_)
   clear hK K
   refine norm_ (a' := ?_) ?_ ?_
   rotate_left; focus (show Act.put _ (some 9) _ = _; simp only [Act.put, z1, z2, z3, i64_w, i32_w]; rfl)
   refine one_ (i := 0) (N := some 27) #[true,true,false,false,false,false,false,true,false,false] rfl rfl (one_of HT_.out (by kernel_rfl)) (by decide) (fun K hK => ?_)
   refine goes_ Try.func27 (by kernel_rfl) rfl #[.int .i64 9223372036854775807] (by rfl) rfl rfl (by (try simp only [List.map_toArray, List.map_cons, List.map_nil]); first | done | rfl | (simp only [List.length_drop, List.length_take]; rfl)) ?_
   with_reducible refine (exact_Of.calls 9223372036854775807 t376 t377 _ A8.out).mono ?_
   rintro e w26 ⟨v378, rfl, ho0, hb⟩
   refine ⟨_, rfl, ?_⟩
   have n0_ := Aside0.mk (vb HO367.out hb)
   have n1_ := Aside0.mk (vb HO371.out hb)
   have n2_ := Aside0.mk (Kd.V_lower (Kd.V_mono (ok' := fun k_ => k_ ≠ gb372 ∧ k_ ≠ gb373 ∧ k_ ≠ gb389) ho0 (fun k_ hk_ => ⟨(Kd.freshB (g := gb372) (o := .cells #[.bool t364, .slice Ao20 t365.length co20] 43 (0, 0)) (bk BK372.out) k_ hk_), (Kd.freshB (g := gb373) (o := .cells #[.bool t368, .slice Ao22 t369.length co22] 43 (0, 0)) (bk BK373.out) k_ hk_), (Kd.freshB (g := gb389) (o := .cells #[.bool false, .slice none 0 0] 43 (0, 0)) (bk BK389.out) k_ hk_)⟩)) (below_size bl))
   have n3_ := Aside0.mk (bb BK372.out hb)
   have n4_ := Aside0.mk (bb BK373.out hb)
   have n5_ := Aside0.mk (bb BK389.out hb)
   have n6_ := Aside0.mk (below_step bl hb)
   clear HO367
   clear HO371
   clear BK372
   clear BK373
   clear BK389
   clear HB
   have HO367 := n0_
   have HO371 := n1_
   have HO379 := n2_
   have BK372 := n3_
   have BK373 := n4_
   have BK389 := n5_
   have HB := n6_
   clear n0_ n1_ n2_ n3_ n4_ n5_ n6_
   (try clear hb)
   (try clear hb2)
   (try clear hk)
   (try clear hi)
   (try clear ho0)
   refine hK.out _ _ ⟨(blk_cell BK373.out 0).trans rfl, (blk_cell BK373.out 1).trans rfl⟩ (fun hHeld => ?_)
   clear hK K
   refine norm_ (a' := ?_) ?_ ?_
   rotate_left; focus (show Act.put _ (some 27) _ = _; simp only [Act.put, z1, z2, z3, i64_w, i32_w]; rfl)
   refine one_ (i := 2) (N := some 29) #[true,true,true,false,false,false,false,true,false,false] rfl rfl (one_of HT_.out (by kernel_rfl)) (by decide) (fun K hK => ?_)
   refine goes_ Try.func30 (by kernel_rfl) rfl #[.agg #[.bool t368, .slice Ao22 t369.length co22]] (by rfl) rfl rfl (by (try simp only [List.map_toArray, List.map_cons, List.map_nil]); first | done | rfl | (simp only [List.length_drop, List.length_take]; rfl)) ?_
   with_reducible refine (exact_Abs.calls t368 (fun k_ => (((True ∧ k_ ≠ gb372) ∧ k_ ≠ gb373) ∧ k_ ≠ gb389)) _ _ t369 t380 t381 _ ?side1 A9.out).mono ?_
   (case side1 => exact HO371.out)
   rintro e w27 ⟨v382, rfl, ho0, hb⟩
   refine ⟨_, rfl, ?_⟩
   have n0_ := Aside0.mk (vb HO367.out hb)
   have n1_ := Aside0.mk (vb HO371.out hb)
   have n2_ := Aside0.mk (vb HO379.out hb)
   have n3_ := Aside0.mk (Kd.V_lower (Kd.V_mono (ok' := fun k_ => k_ ≠ gb372 ∧ k_ ≠ gb373 ∧ k_ ≠ gb389) ho0 (fun k_ hk_ => ⟨Or.elim hk_ (fun hs_ => hs_.1.1.2) (fun hn_ => (Kd.freshB (g := gb372) (o := .cells #[.bool t364, .slice Ao20 t365.length co20] 43 (0, 0)) (bk BK372.out) k_ hn_)), Or.elim hk_ (fun hs_ => hs_.1.2) (fun hn_ => (Kd.freshB (g := gb373) (o := .cells #[.bool t368, .slice Ao22 t369.length co22] 43 (0, 0)) (bk BK373.out) k_ hn_)), Or.elim hk_ (fun hs_ => hs_.2) (fun hn_ => (Kd.freshB (g := gb389) (o := .cells #[.bool false, .slice none 0 0] 43 (0, 0)) (bk BK389.out) k_ hn_))⟩)) (below_size bl))
   have n4_ := Aside0.mk (bb BK372.out hb)
   have n5_ := Aside0.mk (bb BK373.out hb)
   have n6_ := Aside0.mk (bb BK389.out hb)
   have n7_ := Aside0.mk (below_step bl hb)
   clear HO367
   clear HO371
   clear HO379
   clear BK372
   clear BK373
   clear BK389
   clear HB
   have HO367 := n0_
   have HO371 := n1_
   have HO379 := n2_
   have HO383 := n3_
   have BK372 := n4_
   have BK373 := n5_
   have BK389 := n6_
   have HB := n7_
   clear n0_ n1_ n2_ n3_ n4_ n5_ n6_ n7_
   (try clear hb)
   (try clear hb2)
   (try clear hk)
   (try clear hi)
   (try clear ho0)
   obtain ⟨Ao28, co28, eo28⟩ := Kd.V_slice HO379.out
   (first | subst eo28 | (injection eo28 with f1_ f2_ f3_; have f4_ := f1_.symm; have f5_ := f3_.symm; clear f1_ f2_ f3_; subst f4_; subst f5_))
   obtain ⟨Ao29, co29, eo29⟩ := Kd.V_slice HO383.out
   (first | subst eo29 | (injection eo29 with f1_ f2_ f3_; have f4_ := f1_.symm; have f5_ := f3_.symm; clear f1_ f2_ f3_; subst f4_; subst f5_))
   refine hK.out _ _ ⟨(blk_cell BK373.out 0).trans rfl, (blk_cell BK373.out 1).trans rfl⟩ (fun hHeld => ?_)
   clear hK K
   refine norm_ (a' := ?_) ?_ ?_
   rotate_left; focus (show Act.put _ (some 29) _ = _; simp only [Act.put, z1, z2, z3, i64_w, i32_w]; rfl)
   refine one_ (i := 3) (N := some 30) #[true,true,true,true,false,false,false,true,false,false] rfl rfl (one_of HT_.out (by kernel_rfl)) (by decide) (fun K hK => ?_)
   refine goes_ Try.func29 (by kernel_rfl) rfl #[.agg #[.bool t376, .slice Ao28 t377.length co28], .agg #[.bool t380, .slice Ao29 t381.length co29]] (by rfl) rfl rfl (by (try simp only [List.map_toArray, List.map_cons, List.map_nil]); first | done | rfl | (simp only [List.length_drop, List.length_take]; rfl)) ?_
   with_reducible refine (exact_Add.calls k t376 _ _ t377 t380 _ _ t381 t384 t385 t388 _ ?side1 ?side2 ?side3 ?side4 A10.out).mono ?_
   (case side1 => exact kc ((Kd.V_reads' HO379.out).2.2))
   (case side2 => exact (Kd.V_reads' HO379.out).2.1)
   (case side3 => exact kc ((Kd.V_reads' HO383.out).2.2))
   (case side4 => exact (Kd.V_reads' HO383.out).2.1)
   rintro e w30 ⟨v386, rfl, ho0, hb⟩
   refine ⟨_, rfl, ?_⟩
   have n0_ := Aside0.mk (vb HO367.out hb)
   have n1_ := Aside0.mk (vb HO371.out hb)
   have n2_ := Aside0.mk (vb HO379.out hb)
   have n3_ := Aside0.mk (vb HO383.out hb)
   have n4_ := Aside0.mk (Kd.V_lower (Kd.V_mono (ok' := fun k_ => k_ ≠ gb372 ∧ k_ ≠ gb373 ∧ k_ ≠ gb389) ho0 (fun k_ hk_ => ⟨(Kd.freshB (g := gb372) (o := .cells #[.bool t364, .slice Ao20 t365.length co20] 43 (0, 0)) (bk BK372.out) k_ hk_), (Kd.freshB (g := gb373) (o := .cells #[.bool t368, .slice Ao22 t369.length co22] 43 (0, 0)) (bk BK373.out) k_ hk_), (Kd.freshB (g := gb389) (o := .cells #[.bool false, .slice none 0 0] 43 (0, 0)) (bk BK389.out) k_ hk_)⟩)) (below_size bl))
   have n5_ := Aside0.mk (bb BK372.out hb)
   have n6_ := Aside0.mk (bb BK373.out hb)
   have n7_ := Aside0.mk (bb BK389.out hb)
   have n8_ := Aside0.mk (below_step bl hb)
   clear HO367
   clear HO371
   clear HO379
   clear HO383
   clear BK372
   clear BK373
   clear BK389
   clear HB
   have HO367 := n0_
   have HO371 := n1_
   have HO379 := n2_
   have HO383 := n3_
   have HO387 := n4_
   have BK372 := n5_
   have BK373 := n6_
   have BK389 := n7_
   have HB := n8_
   clear n0_ n1_ n2_ n3_ n4_ n5_ n6_ n7_ n8_
   (try clear hb)
   (try clear hb2)
   (try clear hk)
   (try clear hi)
   (try clear ho0)
   refine hK.out _ _ ⟨(blk_cell BK373.out 0).trans rfl, (blk_cell BK373.out 1).trans rfl⟩ (fun hHeld => ?_)
   clear hK K
   refine norm_ (a' := ?_) ?_ ?_
   rotate_left; focus (show Act.put _ (some 30) _ = _; simp only [Act.put, z1, z2, z3, i64_w, i32_w]; rfl)
   refine pure_ (i := 4) (N := some 26) (v := ?_) (a' := ?_) #[true,true,true,true,true,false,false,true,false,false] rfl rfl (any_of HT_.out (by kernel_rfl)) (fun _ _ _ h => h) (Or.inl ⟨by rfl, ?_⟩) ?_ ?_
   rotate_left; focus (intro w'; go_simp; with_reducible rfl)
   rotate_left; focus (simp only [Act.put, z1, z2, z3, i64_w, i32_w]; rfl)
   refine pure_ (i := 5) (N := some 31) (v := ?_) (a' := ?_) #[true,true,true,true,true,true,false,true,false,false] rfl rfl (any_of HT_.out (by kernel_rfl)) (fun _ _ _ h => h) (Or.inl ⟨by rfl, ?_⟩) ?_ ?_
   rotate_left; focus (intro w'; go_simp; with_reducible rfl)
   rotate_left; focus (simp only [Act.put, z1, z2, z3, i64_w, i32_w]; rfl)
   refine pure_ (i := 6) (N := some 32) (v := ?_) (a' := ?_) #[true,true,true,true,true,true,true,true,false,false] rfl rfl (any_of HT_.out (by kernel_rfl)) (fun _ _ _ h => h) (Or.inl ⟨by rfl, ?_⟩) ?_ ?_
   rotate_left; focus (intro w'; go_simp; with_reducible rfl)
   rotate_left; focus (simp only [Act.put, z1, z2, z3, i64_w, i32_w]; rfl)
   exact norm_ (by simp only [putAll, Act.put, z1, z2, z3]) (hCont (.slice Ao28 t377.length co28, .slice Ao29 t381.length co29, v386, gb389) _ ⟨hHeld, (by (with_reducible repeat (first | apply Kd.V_alloc | apply Kd.V_drewN | apply Kd.V_drew)); exact Kd.V_mono HO367.out (fun _ hk => ⟨hk.1.1.2, ⟨hk.1.2, hk.2⟩⟩)), (by (with_reducible repeat (first | apply Kd.V_alloc | apply Kd.V_drewN | apply Kd.V_drew)); exact Kd.V_mono HO371.out (fun _ hk => ⟨hk.1.1.2, ⟨hk.1.2, hk.2⟩⟩)), (by (with_reducible repeat (first | apply Kd.V_alloc | apply Kd.V_drewN | apply Kd.V_drew)); exact HO379.out), (by (with_reducible repeat (first | apply Kd.V_alloc | apply Kd.V_drewN | apply Kd.V_drew)); exact HO383.out), (by (with_reducible repeat (first | apply Kd.V_alloc | apply Kd.V_drewN | apply Kd.V_drew)); exact HO387.out), (bk BK372.out), (bk BK373.out), (bk BK389.out), GW389.out, GE389.out, NB372_389.out, NB389_372.out, NB373_389.out, NB389_373.out, bl⟩)
 rintro ⟨v378, v382, v386, gb389⟩ w31 ⟨hS_, h0_, h1_, h2_, h3_, h4_, h5_, h6_, h7_, h8_, h9_, h10_, h11_, h12_, h13_, h14_⟩
 have n0_ : Aside0 (Kd.V (Kd.int .u32) 97 w31 w.heap.size (fun k_ => k_ ≠ gb372 ∧ k_ ≠ gb373 ∧ k_ ≠ gb389) (.slice Ao20 t365.length co20) t365) := ⟨h0_⟩
 have n1_ : Aside0 (Kd.V (Kd.int .u32) 97 w31 w.heap.size (fun k_ => k_ ≠ gb372 ∧ k_ ≠ gb373 ∧ k_ ≠ gb389) (.slice Ao22 t369.length co22) t369) := ⟨h1_⟩
 have n2_ : Aside0 (Kd.V (Kd.int .u32) 97 w31 w.heap.size (fun k_ => k_ ≠ gb372 ∧ k_ ≠ gb373 ∧ k_ ≠ gb389) v378 t377) := ⟨h2_⟩
 have n3_ : Aside0 (Kd.V (Kd.int .u32) 97 w31 w.heap.size (fun k_ => k_ ≠ gb372 ∧ k_ ≠ gb373 ∧ k_ ≠ gb389) v382 t381) := ⟨h3_⟩
 have n4_ : Aside0 (Kd.V (Kd.int .u32) 97 w31 w.heap.size (fun k_ => k_ ≠ gb372 ∧ k_ ≠ gb373 ∧ k_ ≠ gb389) v386 t385) := ⟨h4_⟩
 have n5_ : Aside0 (w31.heap[gb372]? = some (.cells #[.bool t364, .slice Ao20 t365.length co20] 43 (0, 0))) := ⟨h5_⟩
 have n6_ : Aside0 (w31.heap[gb373]? = some (.cells #[.bool t368, .slice Ao22 t369.length co22] 43 (0, 0))) := ⟨h6_⟩
 have n7_ : Aside0 (w31.heap[gb389]? = some (.cells #[.bool false, .slice none 0 0] 43 (0, 0))) := ⟨h7_⟩
 have n8_ : Aside0 (w.heap.size ≤ gb389) := ⟨h8_⟩
 have n9_ : Aside0 (w.heap.size ≤ gb389) := ⟨h9_⟩
 have n10_ : Aside0 (gb372 ≠ gb389) := ⟨h10_⟩
 have n11_ : Aside0 (gb389 ≠ gb372) := ⟨h11_⟩
 have n12_ : Aside0 (gb373 ≠ gb389) := ⟨h12_⟩
 have n13_ : Aside0 (gb389 ≠ gb373) := ⟨h13_⟩
 have n14_ : Aside0 (Below w.heap.size w w31) := ⟨h14_⟩
 clear HO367
 clear HO371
 clear BK372
 clear BK373
 clear HB
 clear h0_ h1_ h2_ h3_ h4_ h5_ h6_ h7_ h8_ h9_ h10_ h11_ h12_ h13_ h14_
 have HO367 := n0_
 have HO371 := n1_
 have HO379 := n2_
 have HO383 := n3_
 have HO387 := n4_
 have BK372 := n5_
 have BK373 := n6_
 have BK389 := n7_
 have GE389 := n9_
 have NB372_389 := n10_
 have NB389_372 := n11_
 have NB373_389 := n12_
 have NB389_373 := n13_
 have HB := n14_
 clear n0_ n1_ n2_ n3_ n4_ n5_ n6_ n7_ n8_ n9_ n10_ n11_ n12_ n13_ n14_
 have hHeld : w31.cell? ⟨gb373, 0, none⟩ = some (.bool t368) ∧ w31.cell? ⟨gb373, 1, none⟩ = some (.slice Ao22 t369.length co22) := hS_
 obtain ⟨Ao33, co33, eo33⟩ := Kd.V_slice HO387.out
 (first | subst eo33 | (injection eo33 with f1_ f2_ f3_; have f4_ := f1_.symm; have f5_ := f3_.symm; clear f1_ f2_ f3_; subst f4_; subst f5_))
 refine norm_ (a' := ?_) ?_ ?_
 rotate_left
 · simp only [putAll, Act.put, z1, z2, z3]
   rfl
 refine one_ (i := 8) (N := none) #[true,true,true,true,true,true,true,true,true,false] rfl rfl (one_of HT_.out (by kernel_rfl)) (by decide) (fun K hK => ?_)
 have hs32 : w31.cell? ⟨gb389, 0, none⟩ = some (.bool false) := (blk_cell BK389.out 0).trans rfl
 have hfs32 := blk_frozen BK389.out 0
 have hs34 : w31.cell? ⟨gb389, 1, none⟩ = some (.slice none 0 0) := (blk_cell BK389.out 1).trans rfl
 have hfs34 := blk_frozen BK389.out 1
 refine skip_ (w1 := ?_) (by rfl) rfl ?_ ?_
 rotate_left; focus (go_simp; rfl)
 refine hK.out _ _ ⟨((cell_far (p := ⟨gb389, _, none⟩) NB373_389.out _).trans (((cell_far (p := ⟨gb389, _, none⟩) NB373_389.out _).trans (hHeld.1)))), ((cell_far (p := ⟨gb389, _, none⟩) NB373_389.out _).trans (((cell_far (p := ⟨gb389, _, none⟩) NB373_389.out _).trans (hHeld.2))))⟩ (fun hHeld => ?_)
 clear hK K
 refine pure_ (i := 9) (N := some 10) (v := ?_) (a' := ?_) #[true,true,true,true,true,true,true,true,true,true] rfl rfl (any_of HT_.out (by kernel_rfl)) (fun _ _ _ h => h) (Or.inl ⟨by rfl, ?_⟩) ?_ ?_
 rotate_left; focus (intro w'; go_simp; with_reducible rfl)
 rotate_left; focus (simp only [Act.put, z1, z2, z3, i64_w, i32_w]; rfl)
 refine done_ (done_of HT_.out (by kernel_rfl)) ?_
 obtain ⟨hcz37_0, hcz37_1, hfz37_0, hfz37_1⟩ := bz2 BK389.out
 go_upto_if 39 with (first | ((with_reducible refine gate_callee (f := 28) rfl ?_); refine goesL_ (some 35) rfl rfl Try.func28 (by kernel_rfl) rfl #[.agg #[.bool t384, .slice Ao33 t385.length co33]] rfl (by (try simp only [List.map_toArray, List.map_cons, List.map_nil]); first | done | rfl | (simp only [List.length_drop, List.length_take]; rfl)) ?_; (with_reducible refine (exact_Small.calls k t384 _ _ t385 t390 t391 _ ?side1 ?side2 A11.out).mono ?_); (case side1 => refine (Kd.V_reads' (e := 97) (base := w.heap.size) (ok := fun k_ => (k_ ≠ gb372 ∧ (k_ ≠ gb373 ∧ k_ ≠ gb389))) (n := t385.length) (c := co33) ?_).2.2; exact (by (with_reducible repeat (first | apply Kd.V_alloc | apply Kd.V_drewN | apply Kd.V_drew)); exact (Kd.V_mono (Kd.V_far (p := ⟨gb389, 1, none⟩) (Kd.V_far (p := ⟨gb389, 0, none⟩) (Kd.V_mono HO387.out (fun k_ hk => (⟨hk, hk.2.2⟩ : _ ∧ k_ ≠ gb389))) (fun _ hk => hk.2) (.bool t384)) (fun _ hk => hk.2) (.slice Ao33 t385.length co33)) (fun _ h_ => h_.1)))); (case side2 => exact (Kd.V_reads' HO387.out).2.1); rintro e w38 ⟨rfl, hb⟩; refine ⟨_, rfl, ?_⟩; replace HO367 := Aside0.mk (Kd.V_below (by (with_reducible repeat (first | apply Kd.V_alloc | apply Kd.V_drewN | apply Kd.V_drew)); exact (Kd.V_mono (Kd.V_far (p := ⟨gb389, 1, none⟩) (Kd.V_far (p := ⟨gb389, 0, none⟩) (Kd.V_mono HO367.out (fun k_ hk => (⟨hk, hk.2.2⟩ : _ ∧ k_ ≠ gb389))) (fun _ hk => hk.2) (.bool t384)) (fun _ hk => hk.2) (.slice Ao33 t385.length co33)) (fun _ h_ => h_.1))) hb); replace HO371 := Aside0.mk (Kd.V_below (by (with_reducible repeat (first | apply Kd.V_alloc | apply Kd.V_drewN | apply Kd.V_drew)); exact (Kd.V_mono (Kd.V_far (p := ⟨gb389, 1, none⟩) (Kd.V_far (p := ⟨gb389, 0, none⟩) (Kd.V_mono HO371.out (fun k_ hk => (⟨hk, hk.2.2⟩ : _ ∧ k_ ≠ gb389))) (fun _ hk => hk.2) (.bool t384)) (fun _ hk => hk.2) (.slice Ao33 t385.length co33)) (fun _ h_ => h_.1))) hb); replace HO379 := Aside0.mk (Kd.V_below (by (with_reducible repeat (first | apply Kd.V_alloc | apply Kd.V_drewN | apply Kd.V_drew)); exact (Kd.V_mono (Kd.V_far (p := ⟨gb389, 1, none⟩) (Kd.V_far (p := ⟨gb389, 0, none⟩) (Kd.V_mono HO379.out (fun k_ hk => (⟨hk, hk.2.2⟩ : _ ∧ k_ ≠ gb389))) (fun _ hk => hk.2) (.bool t384)) (fun _ hk => hk.2) (.slice Ao33 t385.length co33)) (fun _ h_ => h_.1))) hb); replace HO383 := Aside0.mk (Kd.V_below (by (with_reducible repeat (first | apply Kd.V_alloc | apply Kd.V_drewN | apply Kd.V_drew)); exact (Kd.V_mono (Kd.V_far (p := ⟨gb389, 1, none⟩) (Kd.V_far (p := ⟨gb389, 0, none⟩) (Kd.V_mono HO383.out (fun k_ hk => (⟨hk, hk.2.2⟩ : _ ∧ k_ ≠ gb389))) (fun _ hk => hk.2) (.bool t384)) (fun _ hk => hk.2) (.slice Ao33 t385.length co33)) (fun _ h_ => h_.1))) hb); replace HO387 := Aside0.mk (Kd.V_below (by (with_reducible repeat (first | apply Kd.V_alloc | apply Kd.V_drewN | apply Kd.V_drew)); exact (Kd.V_mono (Kd.V_far (p := ⟨gb389, 1, none⟩) (Kd.V_far (p := ⟨gb389, 0, none⟩) (Kd.V_mono HO387.out (fun k_ hk => (⟨hk, hk.2.2⟩ : _ ∧ k_ ≠ gb389))) (fun _ hk => hk.2) (.bool t384)) (fun _ hk => hk.2) (.slice Ao33 t385.length co33)) (fun _ h_ => h_.1))) hb); replace BK372 := Aside0.mk (blk_below (bf BK372.out) hb); replace BK373 := Aside0.mk (blk_below (bf BK373.out) hb); replace BK389 := Aside0.mk (blk_below (g := gb389) (o := .cells #[.bool t384, .slice Ao33 t385.length co33] 43 (0, 0)) (by (with_reducible repeat (first | refine blk_drewN ?_ _ | refine blk_drew ?_ | refine blk_alloc ?_ _)); refine blk_put (cs := #[.bool t384, .slice none 0 0]) ?_ 1 _ rfl; (with_reducible repeat (first | refine blk_drewN ?_ _ | refine blk_drew ?_ | refine blk_alloc ?_ _)); refine blk_put (cs := #[.bool false, .slice none 0 0]) ?_ 0 _ rfl; (with_reducible repeat (first | refine blk_drewN ?_ _ | refine blk_drew ?_ | refine blk_alloc ?_ _)); exact BK389.out) hb); replace HB := Aside0.mk (below_step bl hb); (try clear hb)))
 (try simp only [Act.put, z1, z2, z3])
 go_cut [13] (fun v13 wc => ∃ (kq : Nat) (x13_11 : Int), v13 = .int .i64 x13_11 ∧ Aside0 (masklaw4_ExactSmalls.j0 kq a0 a1 t374 t375 t388 t390 t391 x13_11 t364 t365 t368 t369 = some r) ∧ Aside0 (kq ≤ k) ∧ Aside0 (Kd.V (Kd.int .u32) 97 wc w.heap.size (fun k_ => k_ ≠ gb372 ∧ k_ ≠ gb373 ∧ k_ ≠ gb389) (.slice Ao20 t365.length co20) t365) ∧ Aside0 (Kd.V (Kd.int .u32) 97 wc w.heap.size (fun k_ => k_ ≠ gb372 ∧ k_ ≠ gb373 ∧ k_ ≠ gb389) (.slice Ao22 t369.length co22) t369) ∧ Aside0 (Kd.V (Kd.int .u32) 97 wc w.heap.size (fun k_ => k_ ≠ gb372 ∧ k_ ≠ gb373 ∧ k_ ≠ gb389) (.slice Ao33 t385.length co33) t385) ∧ Aside0 (wc.heap[gb372]? = some (.cells #[.bool t364, (.slice Ao20 t365.length co20)] 43 (0, 0))) ∧ Aside0 (wc.heap[gb373]? = some (.cells #[.bool t368, (.slice Ao22 t369.length co22)] 43 (0, 0))) ∧ Aside0 (wc.heap[gb389]? = some (.cells #[.bool t384, (.slice Ao33 t385.length co33)] 43 (0, 0))) ∧ Aside0 (Below w.heap.size w wc))
 case first =>
  have H := HC12.out
  clear HC12
  by_cases c39 : a0 > 0
  · rw [if_pos c39] at H
    have c39b0 : decide (0 < a0) = true := decide_eq_true c39
    clear c39
    (first | rw [c39b0] | (simp only [i64_w, i32_w]; rw [c39b0]) | skip)
    have H' := Aside0.mk H
    clear H
    go_wp2
    go_meet
    case rel => exact ⟨_, (1), (by first | rfl | (simp; done) | (simp [*]; done)), H', ⟨by first | omega | exact Nat.le_refl _⟩, ⟨by (with_reducible repeat (first | apply Kd.V_alloc | apply Kd.V_drewN | apply Kd.V_drew)); exact HO367.out⟩, ⟨by (with_reducible repeat (first | apply Kd.V_alloc | apply Kd.V_drewN | apply Kd.V_drew)); exact HO371.out⟩, ⟨by (with_reducible repeat (first | apply Kd.V_alloc | apply Kd.V_drewN | apply Kd.V_drew)); exact HO387.out⟩, ⟨bk BK372.out⟩, ⟨bk BK373.out⟩, ⟨bk BK389.out⟩, ⟨bl⟩⟩
  rw [if_neg c39] at H
  have c39b0 : decide (0 < a0) = false := decide_eq_false c39
  clear c39
  (first | rw [c39b0] | (simp only [i64_w, i32_w]; rw [c39b0]) | skip)
  have H' := Aside0.mk H
  clear H
  go_wp2
  go_meet
  case rel => exact ⟨_, (0), (by first | rfl | (simp; done) | (simp [*]; done)), H', ⟨by first | omega | exact Nat.le_refl _⟩, ⟨by (with_reducible repeat (first | apply Kd.V_alloc | apply Kd.V_drewN | apply Kd.V_drew)); exact HO367.out⟩, ⟨by (with_reducible repeat (first | apply Kd.V_alloc | apply Kd.V_drewN | apply Kd.V_drew)); exact HO371.out⟩, ⟨by (with_reducible repeat (first | apply Kd.V_alloc | apply Kd.V_drewN | apply Kd.V_drew)); exact HO387.out⟩, ⟨bk BK372.out⟩, ⟨bk BK373.out⟩, ⟨bk BK389.out⟩, ⟨bl⟩⟩
 clear HC12
 clear hcz37_0 hcz37_1 hfz37_0 hfz37_1
 obtain ⟨kq, x13_11, rfl, HA, HJ11, HO_373001, HO_374001, HO_390001, BK372, BK373, BK389, HB⟩ := hcut
 cases kq with
 | zero => exact absurd HA.out (by simp [masklaw4_ExactSmalls.j0])
 | succ kj11 =>
  have H := HA.out
  clear HA
  simp only [masklaw4_ExactSmalls.j0] at H
  have HC40 := Aside0.mk H
  clear H
  go_upto_if 41 with (fail)
  go_cut [13] (fun v13 wc => ∃ (kq : Nat) (x13_39 : Int), v13 = .int .i64 x13_39 ∧ Aside0 (masklaw4_ExactSmalls.j1 kq a0 a1 t374 t375 t388 t390 t391 x13_39 t364 t365 t368 t369 = some r) ∧ Aside0 (kq ≤ kj11) ∧ Aside0 (Kd.V (Kd.int .u32) 97 wc w.heap.size (fun k_ => k_ ≠ gb372 ∧ k_ ≠ gb373 ∧ k_ ≠ gb389) (.slice Ao20 t365.length co20) t365) ∧ Aside0 (Kd.V (Kd.int .u32) 97 wc w.heap.size (fun k_ => k_ ≠ gb372 ∧ k_ ≠ gb373 ∧ k_ ≠ gb389) (.slice Ao22 t369.length co22) t369) ∧ Aside0 (Kd.V (Kd.int .u32) 97 wc w.heap.size (fun k_ => k_ ≠ gb372 ∧ k_ ≠ gb373 ∧ k_ ≠ gb389) (.slice Ao33 t385.length co33) t385) ∧ Aside0 (wc.heap[gb372]? = some (.cells #[.bool t364, (.slice Ao20 t365.length co20)] 43 (0, 0))) ∧ Aside0 (wc.heap[gb373]? = some (.cells #[.bool t368, (.slice Ao22 t369.length co22)] 43 (0, 0))) ∧ Aside0 (wc.heap[gb389]? = some (.cells #[.bool t384, (.slice Ao33 t385.length co33)] 43 (0, 0))) ∧ Aside0 (Below w.heap.size w wc))
  case first =>
   have H := HC40.out
   clear HC40
   by_cases c41 : a0 < 0
   · rw [if_pos c41] at H
     have c41b0 : decide (a0 < 0) = true := decide_eq_true c41
     clear c41
     (first | rw [c41b0] | (simp only [i64_w, i32_w]; rw [c41b0]) | skip)
     have H' := Aside0.mk H
     clear H
     go_wp2
     go_meet
     case rel => exact ⟨_, ((-1)), (by first | rfl | (simp; done) | (simp [*]; done)), H', ⟨by have := HJ11.out; first | omega | exact Nat.le_refl _⟩, ⟨by (with_reducible repeat (first | apply Kd.V_alloc | apply Kd.V_drewN | apply Kd.V_drew)); exact HO_373001.out⟩, ⟨by (with_reducible repeat (first | apply Kd.V_alloc | apply Kd.V_drewN | apply Kd.V_drew)); exact HO_374001.out⟩, ⟨by (with_reducible repeat (first | apply Kd.V_alloc | apply Kd.V_drewN | apply Kd.V_drew)); exact HO_390001.out⟩, ⟨bk BK372.out⟩, ⟨bk BK373.out⟩, ⟨bk BK389.out⟩, ⟨bl⟩⟩
   rw [if_neg c41] at H
   have c41b0 : decide (a0 < 0) = false := decide_eq_false c41
   clear c41
   (first | rw [c41b0] | (simp only [i64_w, i32_w]; rw [c41b0]) | skip)
   have H' := Aside0.mk H
   clear H
   go_wp2
   go_meet
   case rel => exact ⟨_, (x13_11), (by first | rfl | (simp; done) | (simp [*]; done)), H', ⟨by have := HJ11.out; first | omega | exact Nat.le_refl _⟩, ⟨by (with_reducible repeat (first | apply Kd.V_alloc | apply Kd.V_drewN | apply Kd.V_drew)); exact HO_373001.out⟩, ⟨by (with_reducible repeat (first | apply Kd.V_alloc | apply Kd.V_drewN | apply Kd.V_drew)); exact HO_374001.out⟩, ⟨by (with_reducible repeat (first | apply Kd.V_alloc | apply Kd.V_drewN | apply Kd.V_drew)); exact HO_390001.out⟩, ⟨bk BK372.out⟩, ⟨bk BK373.out⟩, ⟨bk BK389.out⟩, ⟨bl⟩⟩
  clear HC40
  obtain ⟨kq, x13_39, rfl, HA, HJ39, HO_373001, HO_374001, HO_390001, BK372, BK373, BK389, HB⟩ := hcut
  cases kq with
  | zero => exact absurd HA.out (by simp [masklaw4_ExactSmalls.j1])
  | succ kj39 =>
   have H := HA.out
   clear HA
   simp only [masklaw4_ExactSmalls.j1] at H
   have HC42 := Aside0.mk H
   clear H
   go_upto_if 44 with (fail)
   go_cut [14] (fun v14 wc => ∃ (kq : Nat) (x14_41 : Int), v14 = .int .i64 x14_41 ∧ Aside0 (masklaw4_ExactSmalls.j2 kq a0 a1 t374 t375 t388 t390 t391 x13_39 x14_41 t364 t365 t368 t369 = some r) ∧ Aside0 (kq ≤ kj39) ∧ Aside0 (Kd.V (Kd.int .u32) 97 wc w.heap.size (fun k_ => k_ ≠ gb372 ∧ k_ ≠ gb373 ∧ k_ ≠ gb389) (.slice Ao20 t365.length co20) t365) ∧ Aside0 (Kd.V (Kd.int .u32) 97 wc w.heap.size (fun k_ => k_ ≠ gb372 ∧ k_ ≠ gb373 ∧ k_ ≠ gb389) (.slice Ao22 t369.length co22) t369) ∧ Aside0 (Kd.V (Kd.int .u32) 97 wc w.heap.size (fun k_ => k_ ≠ gb372 ∧ k_ ≠ gb373 ∧ k_ ≠ gb389) (.slice Ao33 t385.length co33) t385) ∧ Aside0 (wc.heap[gb372]? = some (.cells #[.bool t364, (.slice Ao20 t365.length co20)] 43 (0, 0))) ∧ Aside0 (wc.heap[gb373]? = some (.cells #[.bool t368, (.slice Ao22 t369.length co22)] 43 (0, 0))) ∧ Aside0 (wc.heap[gb389]? = some (.cells #[.bool t384, (.slice Ao33 t385.length co33)] 43 (0, 0))) ∧ Aside0 (Below w.heap.size w wc))
   case first =>
    have H := HC42.out
    clear HC42
    by_cases c43 : a0 < a1
    · rw [if_pos c43] at H
      have c43b0 : decide (a0 < a1) = true := decide_eq_true c43
      clear c43
      (first | rw [c43b0] | (simp only [i64_w, i32_w]; rw [c43b0]) | skip)
      have H' := Aside0.mk H
      clear H
      go_wp2
      go_meet
      case rel => exact ⟨_, ((-1)), (by first | rfl | (simp; done) | (simp [*]; done)), H', ⟨by have := HJ11.out; have := HJ39.out; first | omega | exact Nat.le_refl _⟩, ⟨by (with_reducible repeat (first | apply Kd.V_alloc | apply Kd.V_drewN | apply Kd.V_drew)); exact HO_373001.out⟩, ⟨by (with_reducible repeat (first | apply Kd.V_alloc | apply Kd.V_drewN | apply Kd.V_drew)); exact HO_374001.out⟩, ⟨by (with_reducible repeat (first | apply Kd.V_alloc | apply Kd.V_drewN | apply Kd.V_drew)); exact HO_390001.out⟩, ⟨bk BK372.out⟩, ⟨bk BK373.out⟩, ⟨bk BK389.out⟩, ⟨bl⟩⟩
    rw [if_neg c43] at H
    have c43b0 : decide (a0 < a1) = false := decide_eq_false c43
    clear c43
    (first | rw [c43b0] | (simp only [i64_w, i32_w]; rw [c43b0]) | skip)
    have H' := Aside0.mk H
    clear H
    go_wp2
    go_meet
    case rel => exact ⟨_, (0), (by first | rfl | (simp; done) | (simp [*]; done)), H', ⟨by have := HJ11.out; have := HJ39.out; first | omega | exact Nat.le_refl _⟩, ⟨by (with_reducible repeat (first | apply Kd.V_alloc | apply Kd.V_drewN | apply Kd.V_drew)); exact HO_373001.out⟩, ⟨by (with_reducible repeat (first | apply Kd.V_alloc | apply Kd.V_drewN | apply Kd.V_drew)); exact HO_374001.out⟩, ⟨by (with_reducible repeat (first | apply Kd.V_alloc | apply Kd.V_drewN | apply Kd.V_drew)); exact HO_390001.out⟩, ⟨bk BK372.out⟩, ⟨bk BK373.out⟩, ⟨bk BK389.out⟩, ⟨bl⟩⟩
   clear HC42
   obtain ⟨kq, x14_41, rfl, HA, HJ41, HO_373001, HO_374001, HO_390001, BK372, BK373, BK389, HB⟩ := hcut
   cases kq with
   | zero => exact absurd HA.out (by simp [masklaw4_ExactSmalls.j2])
   | succ kj41 =>
    have H := HA.out
    clear HA
    simp only [masklaw4_ExactSmalls.j2] at H
    have HC44 := Aside0.mk H
    clear H
    go_upto_if 47 with (fail)
    go_cut [14] (fun v14 wc => ∃ (kq : Nat) (x14_43 : Int), v14 = .int .i64 x14_43 ∧ Aside0 (masklaw4_ExactSmalls.j3 kq a0 a1 t374 t375 t388 t390 t391 x13_39 x14_43 t364 t365 t368 t369 = some r) ∧ Aside0 (kq ≤ kj41) ∧ Aside0 (Kd.V (Kd.int .u32) 97 wc w.heap.size (fun k_ => k_ ≠ gb372 ∧ k_ ≠ gb373 ∧ k_ ≠ gb389) (.slice Ao20 t365.length co20) t365) ∧ Aside0 (Kd.V (Kd.int .u32) 97 wc w.heap.size (fun k_ => k_ ≠ gb372 ∧ k_ ≠ gb373 ∧ k_ ≠ gb389) (.slice Ao22 t369.length co22) t369) ∧ Aside0 (Kd.V (Kd.int .u32) 97 wc w.heap.size (fun k_ => k_ ≠ gb372 ∧ k_ ≠ gb373 ∧ k_ ≠ gb389) (.slice Ao33 t385.length co33) t385) ∧ Aside0 (wc.heap[gb372]? = some (.cells #[.bool t364, (.slice Ao20 t365.length co20)] 43 (0, 0))) ∧ Aside0 (wc.heap[gb373]? = some (.cells #[.bool t368, (.slice Ao22 t369.length co22)] 43 (0, 0))) ∧ Aside0 (wc.heap[gb389]? = some (.cells #[.bool t384, (.slice Ao33 t385.length co33)] 43 (0, 0))) ∧ Aside0 (Below w.heap.size w wc))
    case first =>
     have H := HC44.out
     clear HC44
     by_cases c45 : a0 > a1
     · rw [if_pos c45] at H
       have c45b0 : decide (a1 < a0) = true := decide_eq_true c45
       clear c45
       (first | rw [c45b0] | (simp only [i64_w, i32_w]; rw [c45b0]) | skip)
       have H' := Aside0.mk H
       clear H
       go_wp2
       go_meet
       case rel => exact ⟨_, (1), (by first | rfl | (simp; done) | (simp [*]; done)), H', ⟨by have := HJ11.out; have := HJ39.out; have := HJ41.out; first | omega | exact Nat.le_refl _⟩, ⟨by (with_reducible repeat (first | apply Kd.V_alloc | apply Kd.V_drewN | apply Kd.V_drew)); exact HO_373001.out⟩, ⟨by (with_reducible repeat (first | apply Kd.V_alloc | apply Kd.V_drewN | apply Kd.V_drew)); exact HO_374001.out⟩, ⟨by (with_reducible repeat (first | apply Kd.V_alloc | apply Kd.V_drewN | apply Kd.V_drew)); exact HO_390001.out⟩, ⟨bk BK372.out⟩, ⟨bk BK373.out⟩, ⟨bk BK389.out⟩, ⟨bl⟩⟩
     rw [if_neg c45] at H
     have c45b0 : decide (a1 < a0) = false := decide_eq_false c45
     clear c45
     (first | rw [c45b0] | (simp only [i64_w, i32_w]; rw [c45b0]) | skip)
     have H' := Aside0.mk H
     clear H
     go_wp2
     go_meet
     case rel => exact ⟨_, (x14_41), (by first | rfl | (simp; done) | (simp [*]; done)), H', ⟨by have := HJ11.out; have := HJ39.out; have := HJ41.out; first | omega | exact Nat.le_refl _⟩, ⟨by (with_reducible repeat (first | apply Kd.V_alloc | apply Kd.V_drewN | apply Kd.V_drew)); exact HO_373001.out⟩, ⟨by (with_reducible repeat (first | apply Kd.V_alloc | apply Kd.V_drewN | apply Kd.V_drew)); exact HO_374001.out⟩, ⟨by (with_reducible repeat (first | apply Kd.V_alloc | apply Kd.V_drewN | apply Kd.V_drew)); exact HO_390001.out⟩, ⟨bk BK372.out⟩, ⟨bk BK373.out⟩, ⟨bk BK389.out⟩, ⟨bl⟩⟩
    clear HC44
    obtain ⟨kq, x14_43, rfl, HA, HJ43, HO_373001, HO_374001, HO_390001, BK372, BK373, BK389, HB⟩ := hcut
    cases kq with
    | zero => exact absurd HA.out (by simp [masklaw4_ExactSmalls.j3])
    | succ kj43 =>
     have H := HA.out
     clear HA
     simp only [masklaw4_ExactSmalls.j3] at H
     by_cases c46 : t375 = true
     rotate_left
     · replace c46 := Bool.eq_false_iff.mpr c46
       subst c46
       have H1 : (some false) = some r := by rw [if_neg (show ¬ (false = true) by decide)] at H; exact H
       clear H
       have H := H1
       clear H1
       obtain rfl := Option.some.inj H
       go_wp2
       go_ret
       exact ⟨by first | rfl | (simp [errW_none, errW_some] <;> rfl) | (simp [*, errW_none, errW_some] <;> rfl), bl⟩
     subst c46
     have H1 : (if t374 = a0 then ((exact_Sign.f t364 t365).bind fun t392 => (if t392 = x13_39 then ((exact_Cmp.f kj43 t364 t365 t368 t369).bind fun t393 => (if t393 = x14_43 then ((exact_Text.f kj43 t364 t365).bind fun t394 => ((maskref4_DecInt.f kj43 a0).bind fun bt395 => ((maskref4_Dec_Text.f kj43 bt395.1 bt395.2).bind fun t399 => (if t394.toList = t399.toList then ((exact_Bits.f t364 t365).bind fun t400 => ((maskref4_DecInt.f kj43 a0).bind fun bt401 => ((maskref4_Dec_BitsOf.f kj43 bt401.1 bt401.2).bind fun t405 => (if t400 = t405 then (if t388 = 0 then (if (t391 == (a1 == 0)) = true then (if t391 = true then (if t390 = 9223372036854775807 then (some true) else (some false)) else (some (t390 == 0))) else (some false)) else (some false)) else (some false))))) else (some false))))) else (some false))) else (some false))) else (some false)) = some r := by rw [if_pos rfl] at H; exact H
     clear H
     have H := H1
     clear H1
     by_cases c47 : t374 = a0
     rotate_left
     · rw [if_neg c47] at H
       have c47b1 : (t374 != a0) = true := bne_iff_ne.mpr c47
       obtain rfl := Option.some.inj H
       go_wp2
       go_ret
       exact ⟨by first | rfl | (simp [errW_none, errW_some] <;> rfl) | (simp [*, errW_none, errW_some] <;> rfl), bl⟩
     rw [if_pos c47] at H
     have c47b1 : (t374 != a0) = false := bne_eq_false_iff_eq.mpr c47
     clear c47
     replace H := Option.bind_eq_some_iff.mp H
     obtain ⟨t392, A480, H⟩ := H
     replace H : (if t392 = x13_39 then ((exact_Cmp.f kj43 t364 t365 t368 t369).bind fun t393 => (if t393 = x14_43 then ((exact_Text.f kj43 t364 t365).bind fun t394 => ((maskref4_DecInt.f kj43 a0).bind fun bt395 => ((maskref4_Dec_Text.f kj43 bt395.1 bt395.2).bind fun t399 => (if t394.toList = t399.toList then ((exact_Bits.f t364 t365).bind fun t400 => ((maskref4_DecInt.f kj43 a0).bind fun bt401 => ((maskref4_Dec_BitsOf.f kj43 bt401.1 bt401.2).bind fun t405 => (if t400 = t405 then (if t388 = 0 then (if (t391 == (a1 == 0)) = true then (if t391 = true then (if t390 = 9223372036854775807 then (some true) else (some false)) else (some (t390 == 0))) else (some false)) else (some false)) else (some false))))) else (some false))))) else (some false))) else (some false)) = some r := H
     have A48 := Aside0.mk A480
     clear A480
     by_cases c49 : t392 = x13_39
     rotate_left
     · rw [if_neg c49] at H
       have c49b1 : (t392 != x13_39) = true := bne_iff_ne.mpr c49
       obtain rfl := Option.some.inj H
       obtain ⟨hcz195_0, hcz195_1, hfz195_0, hfz195_1⟩ := bz2 BK372.out
       go_wp2_with (go_at_call 23; (with_reducible refine (exact_Sign.calls t364 _ _ t365 t392 _ ?side1 ?side2 A48.out).mono ?_); (case side1 => exact kc ((Kd.V_reads' HO_373001.out).2.2)); (case side2 => exact (Kd.V_reads' HO_373001.out).2.1); rintro e w196 ⟨rfl, hb⟩; replace HO_373001 := Aside0.mk (vb HO_373001.out hb); replace HO_374001 := Aside0.mk (vb HO_374001.out hb); replace HO_390001 := Aside0.mk (vb HO_390001.out hb); replace BK372 := Aside0.mk (bb BK372.out hb); replace BK373 := Aside0.mk (bb BK373.out hb); replace BK389 := Aside0.mk (bb BK389.out hb); replace HB := Aside0.mk (below_step bl hb); (try clear hb))
       go_ret
       exact ⟨by first | rfl | (simp [errW_none, errW_some] <;> rfl) | (simp [*, errW_none, errW_some] <;> rfl), bl⟩
     rw [if_pos c49] at H
     have c49b1 : (t392 != x13_39) = false := bne_eq_false_iff_eq.mpr c49
     clear c49
     replace H := Option.bind_eq_some_iff.mp H
     obtain ⟨t393, A500, H⟩ := H
     replace H : (if t393 = x14_43 then ((exact_Text.f kj43 t364 t365).bind fun t394 => ((maskref4_DecInt.f kj43 a0).bind fun bt395 => ((maskref4_Dec_Text.f kj43 bt395.1 bt395.2).bind fun t399 => (if t394.toList = t399.toList then ((exact_Bits.f t364 t365).bind fun t400 => ((maskref4_DecInt.f kj43 a0).bind fun bt401 => ((maskref4_Dec_BitsOf.f kj43 bt401.1 bt401.2).bind fun t405 => (if t400 = t405 then (if t388 = 0 then (if (t391 == (a1 == 0)) = true then (if t391 = true then (if t390 = 9223372036854775807 then (some true) else (some false)) else (some (t390 == 0))) else (some false)) else (some false)) else (some false))))) else (some false))))) else (some false)) = some r := H
     have A50 := Aside0.mk A500
     clear A500
     by_cases c51 : t393 = x14_43
     rotate_left
     · rw [if_neg c51] at H
       have c51b1 : (t393 != x14_43) = true := bne_iff_ne.mpr c51
       obtain rfl := Option.some.inj H
       obtain ⟨hcz187_0, hcz187_1, hfz187_0, hfz187_1⟩ := bz2 BK372.out
       go_wp2_with (first | (go_at_call 23; (with_reducible refine (exact_Sign.calls t364 _ _ t365 t392 _ ?side1 ?side2 A48.out).mono ?_); (case side1 => exact kc ((Kd.V_reads' HO_373001.out).2.2)); (case side2 => exact (Kd.V_reads' HO_373001.out).2.1); rintro e w188 ⟨rfl, hb⟩; replace HO_373001 := Aside0.mk (vb HO_373001.out hb); replace HO_374001 := Aside0.mk (vb HO_374001.out hb); replace HO_390001 := Aside0.mk (vb HO_390001.out hb); replace BK372 := Aside0.mk (bb BK372.out hb); replace BK373 := Aside0.mk (bb BK373.out hb); replace BK389 := Aside0.mk (bb BK389.out hb); replace HB := Aside0.mk (below_step bl hb); (try clear hb); obtain ⟨hcz189_0, hcz189_1, hfz189_0, hfz189_1⟩ := bz2 BK372.out; obtain ⟨hcz191_0, hcz191_1, hfz191_0, hfz191_1⟩ := bz2 BK373.out) | (go_at_call 31; (with_reducible refine (exact_Cmp.calls kj43 t364 _ _ t365 t368 _ _ t369 t393 _ ?side1 ?side2 ?side3 ?side4 A50.out).mono ?_); (case side1 => exact kc ((Kd.V_reads' HO_373001.out).2.2)); (case side2 => exact (Kd.V_reads' HO_373001.out).2.1); (case side3 => exact kc ((Kd.V_reads' HO_374001.out).2.2)); (case side4 => exact (Kd.V_reads' HO_374001.out).2.1); rintro e w192 ⟨rfl, hb⟩; replace HO_373001 := Aside0.mk (vb HO_373001.out hb); replace HO_374001 := Aside0.mk (vb HO_374001.out hb); replace HO_390001 := Aside0.mk (vb HO_390001.out hb); replace BK372 := Aside0.mk (bb BK372.out hb); replace BK373 := Aside0.mk (bb BK373.out hb); replace BK389 := Aside0.mk (bb BK389.out hb); replace HB := Aside0.mk (below_step bl hb); (try clear hb)))
       go_ret
       exact ⟨by first | rfl | (simp [errW_none, errW_some] <;> rfl) | (simp [*, errW_none, errW_some] <;> rfl), bl⟩
     rw [if_pos c51] at H
     have c51b1 : (t393 != x14_43) = false := bne_eq_false_iff_eq.mpr c51
     clear c51
     replace H := Option.bind_eq_some_iff.mp H
     obtain ⟨t394, A520, H⟩ := H
     replace H : ((maskref4_DecInt.f kj43 a0).bind fun bt395 => ((maskref4_Dec_Text.f kj43 bt395.1 bt395.2).bind fun t399 => (if t394.toList = t399.toList then ((exact_Bits.f t364 t365).bind fun t400 => ((maskref4_DecInt.f kj43 a0).bind fun bt401 => ((maskref4_Dec_BitsOf.f kj43 bt401.1 bt401.2).bind fun t405 => (if t400 = t405 then (if t388 = 0 then (if (t391 == (a1 == 0)) = true then (if t391 = true then (if t390 = 9223372036854775807 then (some true) else (some false)) else (some (t390 == 0))) else (some false)) else (some false)) else (some false))))) else (some false)))) = some r := H
     have A52 := Aside0.mk A520
     clear A520
     replace H := Option.bind_eq_some_iff.mp H
     obtain ⟨⟨t395, t396⟩, A530, H⟩ := H
     replace H : ((maskref4_Dec_Text.f kj43 t395 t396).bind fun t399 => (if t394.toList = t399.toList then ((exact_Bits.f t364 t365).bind fun t400 => ((maskref4_DecInt.f kj43 a0).bind fun bt401 => ((maskref4_Dec_BitsOf.f kj43 bt401.1 bt401.2).bind fun t405 => (if t400 = t405 then (if t388 = 0 then (if (t391 == (a1 == 0)) = true then (if t391 = true then (if t390 = 9223372036854775807 then (some true) else (some false)) else (some (t390 == 0))) else (some false)) else (some false)) else (some false))))) else (some false))) = some r := H
     have A53 := Aside0.mk A530
     clear A530
     replace H := Option.bind_eq_some_iff.mp H
     obtain ⟨t399, A540, H⟩ := H
     replace H : (if t394.toList = t399.toList then ((exact_Bits.f t364 t365).bind fun t400 => ((maskref4_DecInt.f kj43 a0).bind fun bt401 => ((maskref4_Dec_BitsOf.f kj43 bt401.1 bt401.2).bind fun t405 => (if t400 = t405 then (if t388 = 0 then (if (t391 == (a1 == 0)) = true then (if t391 = true then (if t390 = 9223372036854775807 then (some true) else (some false)) else (some (t390 == 0))) else (some false)) else (some false)) else (some false))))) else (some false)) = some r := H
     have A54 := Aside0.mk A540
     clear A540
     by_cases c55 : t394.toList = t399.toList
     rotate_left
     · rw [if_neg c55] at H
       have c55b0 : (t394.toList == t399.toList) = false := beq_eq_false_iff_ne.mpr c55
       obtain rfl := Option.some.inj H
       obtain ⟨hcz174_0, hcz174_1, hfz174_0, hfz174_1⟩ := bz2 BK372.out
       go_wp2_with (first | (go_at_call 23; (with_reducible refine (exact_Sign.calls t364 _ _ t365 t392 _ ?side1 ?side2 A48.out).mono ?_); (case side1 => exact kc ((Kd.V_reads' HO_373001.out).2.2)); (case side2 => exact (Kd.V_reads' HO_373001.out).2.1); rintro e w175 ⟨rfl, hb⟩; replace HO_373001 := Aside0.mk (vb HO_373001.out hb); replace HO_374001 := Aside0.mk (vb HO_374001.out hb); replace HO_390001 := Aside0.mk (vb HO_390001.out hb); replace BK372 := Aside0.mk (bb BK372.out hb); replace BK373 := Aside0.mk (bb BK373.out hb); replace BK389 := Aside0.mk (bb BK389.out hb); replace HB := Aside0.mk (below_step bl hb); (try clear hb); obtain ⟨hcz176_0, hcz176_1, hfz176_0, hfz176_1⟩ := bz2 BK372.out; obtain ⟨hcz178_0, hcz178_1, hfz178_0, hfz178_1⟩ := bz2 BK373.out) | (go_at_call 31; (with_reducible refine (exact_Cmp.calls kj43 t364 _ _ t365 t368 _ _ t369 t393 _ ?side1 ?side2 ?side3 ?side4 A50.out).mono ?_); (case side1 => exact kc ((Kd.V_reads' HO_373001.out).2.2)); (case side2 => exact (Kd.V_reads' HO_373001.out).2.1); (case side3 => exact kc ((Kd.V_reads' HO_374001.out).2.2)); (case side4 => exact (Kd.V_reads' HO_374001.out).2.1); rintro e w179 ⟨rfl, hb⟩; replace HO_373001 := Aside0.mk (vb HO_373001.out hb); replace HO_374001 := Aside0.mk (vb HO_374001.out hb); replace HO_390001 := Aside0.mk (vb HO_390001.out hb); replace BK372 := Aside0.mk (bb BK372.out hb); replace BK373 := Aside0.mk (bb BK373.out hb); replace BK389 := Aside0.mk (bb BK389.out hb); replace HB := Aside0.mk (below_step bl hb); (try clear hb); obtain ⟨hcz180_0, hcz180_1, hfz180_0, hfz180_1⟩ := bz2 BK372.out) | (go_at_call 25; (with_reducible refine (exact_Text.calls kj43 t364 (fun k_ => (k_ ≠ gb372 ∧ (k_ ≠ gb373 ∧ k_ ≠ gb389))) _ _ t365 t394 _ ?side1 A52.out).mono ?_); (case side1 => exact HO_373001.out); rintro e w181 ⟨rfl, hb⟩; replace HO_373001 := Aside0.mk (vb HO_373001.out hb); replace HO_374001 := Aside0.mk (vb HO_374001.out hb); replace HO_390001 := Aside0.mk (vb HO_390001.out hb); replace BK372 := Aside0.mk (bb BK372.out hb); replace BK373 := Aside0.mk (bb BK373.out hb); replace BK389 := Aside0.mk (bb BK389.out hb); replace HB := Aside0.mk (below_step bl hb); (try clear hb)) | (go_at_call 18; (with_reducible refine (maskref4_DecInt.calls kj43 a0 t395 t396 _ A53.out).mono ?_); rintro e w182 ⟨v397, rfl, ho0, hb⟩; replace HO_373001 := Aside0.mk (vb HO_373001.out hb); replace HO_374001 := Aside0.mk (vb HO_374001.out hb); replace HO_390001 := Aside0.mk (vb HO_390001.out hb); have HO398 := Aside0.mk (Kd.V_lower (Kd.V_mono (ok' := fun k_ => k_ ≠ gb372 ∧ k_ ≠ gb373 ∧ k_ ≠ gb389) ho0 (fun k_ hk_ => ⟨(Kd.freshB (g := gb372) (o := .cells #[.bool t364, .slice Ao20 t365.length co20] 43 (0, 0)) (bk BK372.out) k_ hk_), (Kd.freshB (g := gb373) (o := .cells #[.bool t368, .slice Ao22 t369.length co22] 43 (0, 0)) (bk BK373.out) k_ hk_), (Kd.freshB (g := gb389) (o := .cells #[.bool t384, .slice Ao33 t385.length co33] 43 (0, 0)) (bk BK389.out) k_ hk_)⟩)) (below_size bl)); replace BK372 := Aside0.mk (bb BK372.out hb); replace BK373 := Aside0.mk (bb BK373.out hb); replace BK389 := Aside0.mk (bb BK389.out hb); replace HB := Aside0.mk (below_step bl hb); (try clear hb); (try clear ho0); obtain ⟨Ao183, co183, eo183⟩ := Kd.V_slice HO398.out; subst eo183) | (go_at_call 26; (with_reducible refine (maskref4_Dec_Text.calls kj43 t395 _ _ t396 t399 _ ?side1 ?side2 A54.out).mono ?_); (case side1 => exact kc ((Kd.V_reads' HO398.out).2.2)); (case side2 => exact (Kd.V_reads' HO398.out).2.1); rintro e w184 ⟨rfl, hb⟩; replace HO_373001 := Aside0.mk (vb HO_373001.out hb); replace HO_374001 := Aside0.mk (vb HO_374001.out hb); replace HO_390001 := Aside0.mk (vb HO_390001.out hb); replace HO398 := Aside0.mk (vb HO398.out hb); replace BK372 := Aside0.mk (bb BK372.out hb); replace BK373 := Aside0.mk (bb BK373.out hb); replace BK389 := Aside0.mk (bb BK389.out hb); replace HB := Aside0.mk (below_step bl hb); (try clear hb)))
       go_ret
       exact ⟨by first | rfl | (simp [errW_none, errW_some] <;> rfl) | (simp [*, errW_none, errW_some] <;> rfl), bl⟩
     rw [if_pos c55] at H
     have c55b0 : (t394.toList == t399.toList) = true := beq_iff_eq.mpr c55
     clear c55
     replace H := Option.bind_eq_some_iff.mp H
     obtain ⟨t400, A560, H⟩ := H
     replace H : ((maskref4_DecInt.f kj43 a0).bind fun bt401 => ((maskref4_Dec_BitsOf.f kj43 bt401.1 bt401.2).bind fun t405 => (if t400 = t405 then (if t388 = 0 then (if (t391 == (a1 == 0)) = true then (if t391 = true then (if t390 = 9223372036854775807 then (some true) else (some false)) else (some (t390 == 0))) else (some false)) else (some false)) else (some false)))) = some r := H
     have A56 := Aside0.mk A560
     clear A560
     replace H := Option.bind_eq_some_iff.mp H
     obtain ⟨⟨t401, t402⟩, A570, H⟩ := H
     replace H : ((maskref4_Dec_BitsOf.f kj43 t401 t402).bind fun t405 => (if t400 = t405 then (if t388 = 0 then (if (t391 == (a1 == 0)) = true then (if t391 = true then (if t390 = 9223372036854775807 then (some true) else (some false)) else (some (t390 == 0))) else (some false)) else (some false)) else (some false))) = some r := H
     have A57 := Aside0.mk A570
     have e57 := A53.out.symm.trans A57.out
     simp only [Option.some.injEq, Prod.mk.injEq] at e57
     obtain ⟨e57a, e57b⟩ := e57
     subst e57a
     subst e57b
     clear A570
     replace H := Option.bind_eq_some_iff.mp H
     obtain ⟨t405, A580, H⟩ := H
     replace H : (if t400 = t405 then (if t388 = 0 then (if (t391 == (a1 == 0)) = true then (if t391 = true then (if t390 = 9223372036854775807 then (some true) else (some false)) else (some (t390 == 0))) else (some false)) else (some false)) else (some false)) = some r := H
     have A58 := Aside0.mk A580
     clear A580
     by_cases c59 : t400 = t405
     rotate_left
     · rw [if_neg c59] at H
       have c59b1 : (t400 != t405) = true := bne_iff_ne.mpr c59
       obtain rfl := Option.some.inj H
       obtain ⟨hcz156_0, hcz156_1, hfz156_0, hfz156_1⟩ := bz2 BK372.out
       go_wp2_with (first | (go_at_call 23; (with_reducible refine (exact_Sign.calls t364 _ _ t365 t392 _ ?side1 ?side2 A48.out).mono ?_); (case side1 => exact kc ((Kd.V_reads' HO_373001.out).2.2)); (case side2 => exact (Kd.V_reads' HO_373001.out).2.1); rintro e w157 ⟨rfl, hb⟩; replace HO_373001 := Aside0.mk (vb HO_373001.out hb); replace HO_374001 := Aside0.mk (vb HO_374001.out hb); replace HO_390001 := Aside0.mk (vb HO_390001.out hb); replace BK372 := Aside0.mk (bb BK372.out hb); replace BK373 := Aside0.mk (bb BK373.out hb); replace BK389 := Aside0.mk (bb BK389.out hb); replace HB := Aside0.mk (below_step bl hb); (try clear hb); obtain ⟨hcz158_0, hcz158_1, hfz158_0, hfz158_1⟩ := bz2 BK372.out; obtain ⟨hcz160_0, hcz160_1, hfz160_0, hfz160_1⟩ := bz2 BK373.out) | (go_at_call 31; (with_reducible refine (exact_Cmp.calls kj43 t364 _ _ t365 t368 _ _ t369 t393 _ ?side1 ?side2 ?side3 ?side4 A50.out).mono ?_); (case side1 => exact kc ((Kd.V_reads' HO_373001.out).2.2)); (case side2 => exact (Kd.V_reads' HO_373001.out).2.1); (case side3 => exact kc ((Kd.V_reads' HO_374001.out).2.2)); (case side4 => exact (Kd.V_reads' HO_374001.out).2.1); rintro e w161 ⟨rfl, hb⟩; replace HO_373001 := Aside0.mk (vb HO_373001.out hb); replace HO_374001 := Aside0.mk (vb HO_374001.out hb); replace HO_390001 := Aside0.mk (vb HO_390001.out hb); replace BK372 := Aside0.mk (bb BK372.out hb); replace BK373 := Aside0.mk (bb BK373.out hb); replace BK389 := Aside0.mk (bb BK389.out hb); replace HB := Aside0.mk (below_step bl hb); (try clear hb); obtain ⟨hcz162_0, hcz162_1, hfz162_0, hfz162_1⟩ := bz2 BK372.out) | (go_at_call 25; (with_reducible refine (exact_Text.calls kj43 t364 (fun k_ => (k_ ≠ gb372 ∧ (k_ ≠ gb373 ∧ k_ ≠ gb389))) _ _ t365 t394 _ ?side1 A52.out).mono ?_); (case side1 => exact HO_373001.out); rintro e w163 ⟨rfl, hb⟩; replace HO_373001 := Aside0.mk (vb HO_373001.out hb); replace HO_374001 := Aside0.mk (vb HO_374001.out hb); replace HO_390001 := Aside0.mk (vb HO_390001.out hb); replace BK372 := Aside0.mk (bb BK372.out hb); replace BK373 := Aside0.mk (bb BK373.out hb); replace BK389 := Aside0.mk (bb BK389.out hb); replace HB := Aside0.mk (below_step bl hb); (try clear hb)) | (go_at_call 18; (with_reducible refine (maskref4_DecInt.calls kj43 a0 t395 t396 _ A53.out).mono ?_); rintro e w164 ⟨v397, rfl, ho0, hb⟩; replace HO_373001 := Aside0.mk (vb HO_373001.out hb); replace HO_374001 := Aside0.mk (vb HO_374001.out hb); replace HO_390001 := Aside0.mk (vb HO_390001.out hb); have HO398 := Aside0.mk (Kd.V_lower (Kd.V_mono (ok' := fun k_ => k_ ≠ gb372 ∧ k_ ≠ gb373 ∧ k_ ≠ gb389) ho0 (fun k_ hk_ => ⟨(Kd.freshB (g := gb372) (o := .cells #[.bool t364, .slice Ao20 t365.length co20] 43 (0, 0)) (bk BK372.out) k_ hk_), (Kd.freshB (g := gb373) (o := .cells #[.bool t368, .slice Ao22 t369.length co22] 43 (0, 0)) (bk BK373.out) k_ hk_), (Kd.freshB (g := gb389) (o := .cells #[.bool t384, .slice Ao33 t385.length co33] 43 (0, 0)) (bk BK389.out) k_ hk_)⟩)) (below_size bl)); replace BK372 := Aside0.mk (bb BK372.out hb); replace BK373 := Aside0.mk (bb BK373.out hb); replace BK389 := Aside0.mk (bb BK389.out hb); replace HB := Aside0.mk (below_step bl hb); (try clear hb); (try clear ho0); obtain ⟨Ao165, co165, eo165⟩ := Kd.V_slice HO398.out; subst eo165) | (go_at_call 26; (with_reducible refine (maskref4_Dec_Text.calls kj43 t395 _ _ t396 t399 _ ?side1 ?side2 A54.out).mono ?_); (case side1 => exact kc ((Kd.V_reads' HO398.out).2.2)); (case side2 => exact (Kd.V_reads' HO398.out).2.1); rintro e w166 ⟨rfl, hb⟩; replace HO_373001 := Aside0.mk (vb HO_373001.out hb); replace HO_374001 := Aside0.mk (vb HO_374001.out hb); replace HO_390001 := Aside0.mk (vb HO_390001.out hb); replace HO398 := Aside0.mk (vb HO398.out hb); replace BK372 := Aside0.mk (bb BK372.out hb); replace BK373 := Aside0.mk (bb BK373.out hb); replace BK389 := Aside0.mk (bb BK389.out hb); replace HB := Aside0.mk (below_step bl hb); (try clear hb); obtain ⟨hcz167_0, hcz167_1, hfz167_0, hfz167_1⟩ := bz2 BK372.out) | (go_at_call 32; (with_reducible refine (exact_Bits.calls t364 _ _ t365 t400 _ ?side1 ?side2 A56.out).mono ?_); (case side1 => exact kc ((Kd.V_reads' HO_373001.out).2.2)); (case side2 => exact (Kd.V_reads' HO_373001.out).2.1); rintro e w168 ⟨rfl, hb⟩; replace HO_373001 := Aside0.mk (vb HO_373001.out hb); replace HO_374001 := Aside0.mk (vb HO_374001.out hb); replace HO_390001 := Aside0.mk (vb HO_390001.out hb); replace HO398 := Aside0.mk (vb HO398.out hb); replace BK372 := Aside0.mk (bb BK372.out hb); replace BK373 := Aside0.mk (bb BK373.out hb); replace BK389 := Aside0.mk (bb BK389.out hb); replace HB := Aside0.mk (below_step bl hb); (try clear hb)) | (go_at_call 33; (with_reducible refine (maskref4_Dec_BitsOf.calls kj43 t395 _ _ t396 t405 _ ?side1 ?side2 A58.out).mono ?_); (case side1 => exact kc ((Kd.V_reads' HO398.out).2.2)); (case side2 => exact (Kd.V_reads' HO398.out).2.1); rintro e w171 ⟨rfl, hb⟩; have n0_ := Aside0.mk (vb HO_373001.out hb); have n1_ := Aside0.mk (vb HO_374001.out hb); have n2_ := Aside0.mk (vb HO_390001.out hb); have n3_ := Aside0.mk (vb HO398.out hb); have n4_ := Aside0.mk (vb HO398.out hb); have n5_ := Aside0.mk (bb BK372.out hb); have n6_ := Aside0.mk (bb BK373.out hb); have n7_ := Aside0.mk (bb BK389.out hb); have n8_ := Aside0.mk (below_step bl hb); clear HO_373001; clear HO_374001; clear HO_390001; clear HO398; clear HO398; clear BK372; clear BK373; clear BK389; clear HB; have HB := n8_; clear n0_ n1_ n2_ n3_ n4_ n5_ n6_ n7_ n8_; (try clear hb)))
       go_ret
       exact ⟨by first | rfl | (simp [errW_none, errW_some] <;> rfl) | (simp [*, errW_none, errW_some] <;> rfl), bl⟩
     rw [if_pos c59] at H
     have c59b0 : (t400 == t405) = true := beq_iff_eq.mpr c59
     have c59b1 : (t400 != t405) = false := bne_eq_false_iff_eq.mpr c59
     clear c59
     by_cases c60 : t388 = 0
     rotate_left
     · rw [if_neg c60] at H
       have c60b0 : (t388 == 0) = false := beq_eq_false_iff_ne.mpr c60
       obtain rfl := Option.some.inj H
       obtain ⟨hcz138_0, hcz138_1, hfz138_0, hfz138_1⟩ := bz2 BK372.out
       go_wp2_with (first | (go_at_call 23; (with_reducible refine (exact_Sign.calls t364 _ _ t365 t392 _ ?side1 ?side2 A48.out).mono ?_); (case side1 => exact kc ((Kd.V_reads' HO_373001.out).2.2)); (case side2 => exact (Kd.V_reads' HO_373001.out).2.1); rintro e w139 ⟨rfl, hb⟩; replace HO_373001 := Aside0.mk (vb HO_373001.out hb); replace HO_374001 := Aside0.mk (vb HO_374001.out hb); replace HO_390001 := Aside0.mk (vb HO_390001.out hb); replace BK372 := Aside0.mk (bb BK372.out hb); replace BK373 := Aside0.mk (bb BK373.out hb); replace BK389 := Aside0.mk (bb BK389.out hb); replace HB := Aside0.mk (below_step bl hb); (try clear hb); obtain ⟨hcz140_0, hcz140_1, hfz140_0, hfz140_1⟩ := bz2 BK372.out; obtain ⟨hcz142_0, hcz142_1, hfz142_0, hfz142_1⟩ := bz2 BK373.out) | (go_at_call 31; (with_reducible refine (exact_Cmp.calls kj43 t364 _ _ t365 t368 _ _ t369 t393 _ ?side1 ?side2 ?side3 ?side4 A50.out).mono ?_); (case side1 => exact kc ((Kd.V_reads' HO_373001.out).2.2)); (case side2 => exact (Kd.V_reads' HO_373001.out).2.1); (case side3 => exact kc ((Kd.V_reads' HO_374001.out).2.2)); (case side4 => exact (Kd.V_reads' HO_374001.out).2.1); rintro e w143 ⟨rfl, hb⟩; replace HO_373001 := Aside0.mk (vb HO_373001.out hb); replace HO_374001 := Aside0.mk (vb HO_374001.out hb); replace HO_390001 := Aside0.mk (vb HO_390001.out hb); replace BK372 := Aside0.mk (bb BK372.out hb); replace BK373 := Aside0.mk (bb BK373.out hb); replace BK389 := Aside0.mk (bb BK389.out hb); replace HB := Aside0.mk (below_step bl hb); (try clear hb); obtain ⟨hcz144_0, hcz144_1, hfz144_0, hfz144_1⟩ := bz2 BK372.out) | (go_at_call 25; (with_reducible refine (exact_Text.calls kj43 t364 (fun k_ => (k_ ≠ gb372 ∧ (k_ ≠ gb373 ∧ k_ ≠ gb389))) _ _ t365 t394 _ ?side1 A52.out).mono ?_); (case side1 => exact HO_373001.out); rintro e w145 ⟨rfl, hb⟩; replace HO_373001 := Aside0.mk (vb HO_373001.out hb); replace HO_374001 := Aside0.mk (vb HO_374001.out hb); replace HO_390001 := Aside0.mk (vb HO_390001.out hb); replace BK372 := Aside0.mk (bb BK372.out hb); replace BK373 := Aside0.mk (bb BK373.out hb); replace BK389 := Aside0.mk (bb BK389.out hb); replace HB := Aside0.mk (below_step bl hb); (try clear hb)) | (go_at_call 18; (with_reducible refine (maskref4_DecInt.calls kj43 a0 t395 t396 _ A53.out).mono ?_); rintro e w146 ⟨v397, rfl, ho0, hb⟩; replace HO_373001 := Aside0.mk (vb HO_373001.out hb); replace HO_374001 := Aside0.mk (vb HO_374001.out hb); replace HO_390001 := Aside0.mk (vb HO_390001.out hb); have HO398 := Aside0.mk (Kd.V_lower (Kd.V_mono (ok' := fun k_ => k_ ≠ gb372 ∧ k_ ≠ gb373 ∧ k_ ≠ gb389) ho0 (fun k_ hk_ => ⟨(Kd.freshB (g := gb372) (o := .cells #[.bool t364, .slice Ao20 t365.length co20] 43 (0, 0)) (bk BK372.out) k_ hk_), (Kd.freshB (g := gb373) (o := .cells #[.bool t368, .slice Ao22 t369.length co22] 43 (0, 0)) (bk BK373.out) k_ hk_), (Kd.freshB (g := gb389) (o := .cells #[.bool t384, .slice Ao33 t385.length co33] 43 (0, 0)) (bk BK389.out) k_ hk_)⟩)) (below_size bl)); replace BK372 := Aside0.mk (bb BK372.out hb); replace BK373 := Aside0.mk (bb BK373.out hb); replace BK389 := Aside0.mk (bb BK389.out hb); replace HB := Aside0.mk (below_step bl hb); (try clear hb); (try clear ho0); obtain ⟨Ao147, co147, eo147⟩ := Kd.V_slice HO398.out; subst eo147) | (go_at_call 26; (with_reducible refine (maskref4_Dec_Text.calls kj43 t395 _ _ t396 t399 _ ?side1 ?side2 A54.out).mono ?_); (case side1 => exact kc ((Kd.V_reads' HO398.out).2.2)); (case side2 => exact (Kd.V_reads' HO398.out).2.1); rintro e w148 ⟨rfl, hb⟩; replace HO_373001 := Aside0.mk (vb HO_373001.out hb); replace HO_374001 := Aside0.mk (vb HO_374001.out hb); replace HO_390001 := Aside0.mk (vb HO_390001.out hb); replace HO398 := Aside0.mk (vb HO398.out hb); replace BK372 := Aside0.mk (bb BK372.out hb); replace BK373 := Aside0.mk (bb BK373.out hb); replace BK389 := Aside0.mk (bb BK389.out hb); replace HB := Aside0.mk (below_step bl hb); (try clear hb); obtain ⟨hcz149_0, hcz149_1, hfz149_0, hfz149_1⟩ := bz2 BK372.out) | (go_at_call 32; (with_reducible refine (exact_Bits.calls t364 _ _ t365 t400 _ ?side1 ?side2 A56.out).mono ?_); (case side1 => exact kc ((Kd.V_reads' HO_373001.out).2.2)); (case side2 => exact (Kd.V_reads' HO_373001.out).2.1); rintro e w150 ⟨rfl, hb⟩; replace HO_373001 := Aside0.mk (vb HO_373001.out hb); replace HO_374001 := Aside0.mk (vb HO_374001.out hb); replace HO_390001 := Aside0.mk (vb HO_390001.out hb); replace HO398 := Aside0.mk (vb HO398.out hb); replace BK372 := Aside0.mk (bb BK372.out hb); replace BK373 := Aside0.mk (bb BK373.out hb); replace BK389 := Aside0.mk (bb BK389.out hb); replace HB := Aside0.mk (below_step bl hb); (try clear hb)) | (go_at_call 33; (with_reducible refine (maskref4_Dec_BitsOf.calls kj43 t395 _ _ t396 t405 _ ?side1 ?side2 A58.out).mono ?_); (case side1 => exact kc ((Kd.V_reads' HO398.out).2.2)); (case side2 => exact (Kd.V_reads' HO398.out).2.1); rintro e w153 ⟨rfl, hb⟩; have n0_ := Aside0.mk (vb HO_373001.out hb); have n1_ := Aside0.mk (vb HO_374001.out hb); have n2_ := Aside0.mk (vb HO_390001.out hb); have n3_ := Aside0.mk (vb HO398.out hb); have n4_ := Aside0.mk (vb HO398.out hb); have n5_ := Aside0.mk (bb BK372.out hb); have n6_ := Aside0.mk (bb BK373.out hb); have n7_ := Aside0.mk (bb BK389.out hb); have n8_ := Aside0.mk (below_step bl hb); clear HO_373001; clear HO_374001; clear HO_390001; clear HO398; clear HO398; clear BK372; clear BK373; clear BK389; clear HB; have HB := n8_; clear n0_ n1_ n2_ n3_ n4_ n5_ n6_ n7_ n8_; (try clear hb)))
       go_ret
       exact ⟨by first | rfl | (simp [errW_none, errW_some] <;> rfl) | (simp [*, errW_none, errW_some] <;> rfl), bl⟩
     rw [if_pos c60] at H
     have c60b0 : (t388 == 0) = true := beq_iff_eq.mpr c60
     have c60b1 : (t388 != 0) = false := bne_eq_false_iff_eq.mpr c60
     clear c60
     by_cases c61 : (t391 == (a1 == 0)) = true
     rotate_left
     · rw [if_neg c61] at H
       have c61b0 : (t391 == (a1 == 0)) = false := by simpa using c61
       (try (have c61b1 : decide (t391 = (a1 == 0)) = false := by simpa using c61))
       (try (have c61b2 : (t391 == (a1 == 0)) = false := by simpa using c61))
       (try (have c61b3 : ¬ (t391 = (a1 == 0)) := by simpa using c61))
       clear c61
       obtain rfl := Option.some.inj H
       obtain ⟨hcz120_0, hcz120_1, hfz120_0, hfz120_1⟩ := bz2 BK372.out
       go_wp2_with (first | (go_at_call 23; (with_reducible refine (exact_Sign.calls t364 _ _ t365 t392 _ ?side1 ?side2 A48.out).mono ?_); (case side1 => exact kc ((Kd.V_reads' HO_373001.out).2.2)); (case side2 => exact (Kd.V_reads' HO_373001.out).2.1); rintro e w121 ⟨rfl, hb⟩; replace HO_373001 := Aside0.mk (vb HO_373001.out hb); replace HO_374001 := Aside0.mk (vb HO_374001.out hb); replace HO_390001 := Aside0.mk (vb HO_390001.out hb); replace BK372 := Aside0.mk (bb BK372.out hb); replace BK373 := Aside0.mk (bb BK373.out hb); replace BK389 := Aside0.mk (bb BK389.out hb); replace HB := Aside0.mk (below_step bl hb); (try clear hb); obtain ⟨hcz122_0, hcz122_1, hfz122_0, hfz122_1⟩ := bz2 BK372.out; obtain ⟨hcz124_0, hcz124_1, hfz124_0, hfz124_1⟩ := bz2 BK373.out) | (go_at_call 31; (with_reducible refine (exact_Cmp.calls kj43 t364 _ _ t365 t368 _ _ t369 t393 _ ?side1 ?side2 ?side3 ?side4 A50.out).mono ?_); (case side1 => exact kc ((Kd.V_reads' HO_373001.out).2.2)); (case side2 => exact (Kd.V_reads' HO_373001.out).2.1); (case side3 => exact kc ((Kd.V_reads' HO_374001.out).2.2)); (case side4 => exact (Kd.V_reads' HO_374001.out).2.1); rintro e w125 ⟨rfl, hb⟩; replace HO_373001 := Aside0.mk (vb HO_373001.out hb); replace HO_374001 := Aside0.mk (vb HO_374001.out hb); replace HO_390001 := Aside0.mk (vb HO_390001.out hb); replace BK372 := Aside0.mk (bb BK372.out hb); replace BK373 := Aside0.mk (bb BK373.out hb); replace BK389 := Aside0.mk (bb BK389.out hb); replace HB := Aside0.mk (below_step bl hb); (try clear hb); obtain ⟨hcz126_0, hcz126_1, hfz126_0, hfz126_1⟩ := bz2 BK372.out) | (go_at_call 25; (with_reducible refine (exact_Text.calls kj43 t364 (fun k_ => (k_ ≠ gb372 ∧ (k_ ≠ gb373 ∧ k_ ≠ gb389))) _ _ t365 t394 _ ?side1 A52.out).mono ?_); (case side1 => exact HO_373001.out); rintro e w127 ⟨rfl, hb⟩; replace HO_373001 := Aside0.mk (vb HO_373001.out hb); replace HO_374001 := Aside0.mk (vb HO_374001.out hb); replace HO_390001 := Aside0.mk (vb HO_390001.out hb); replace BK372 := Aside0.mk (bb BK372.out hb); replace BK373 := Aside0.mk (bb BK373.out hb); replace BK389 := Aside0.mk (bb BK389.out hb); replace HB := Aside0.mk (below_step bl hb); (try clear hb)) | (go_at_call 18; (with_reducible refine (maskref4_DecInt.calls kj43 a0 t395 t396 _ A53.out).mono ?_); rintro e w128 ⟨v397, rfl, ho0, hb⟩; replace HO_373001 := Aside0.mk (vb HO_373001.out hb); replace HO_374001 := Aside0.mk (vb HO_374001.out hb); replace HO_390001 := Aside0.mk (vb HO_390001.out hb); have HO398 := Aside0.mk (Kd.V_lower (Kd.V_mono (ok' := fun k_ => k_ ≠ gb372 ∧ k_ ≠ gb373 ∧ k_ ≠ gb389) ho0 (fun k_ hk_ => ⟨(Kd.freshB (g := gb372) (o := .cells #[.bool t364, .slice Ao20 t365.length co20] 43 (0, 0)) (bk BK372.out) k_ hk_), (Kd.freshB (g := gb373) (o := .cells #[.bool t368, .slice Ao22 t369.length co22] 43 (0, 0)) (bk BK373.out) k_ hk_), (Kd.freshB (g := gb389) (o := .cells #[.bool t384, .slice Ao33 t385.length co33] 43 (0, 0)) (bk BK389.out) k_ hk_)⟩)) (below_size bl)); replace BK372 := Aside0.mk (bb BK372.out hb); replace BK373 := Aside0.mk (bb BK373.out hb); replace BK389 := Aside0.mk (bb BK389.out hb); replace HB := Aside0.mk (below_step bl hb); (try clear hb); (try clear ho0); obtain ⟨Ao129, co129, eo129⟩ := Kd.V_slice HO398.out; subst eo129) | (go_at_call 26; (with_reducible refine (maskref4_Dec_Text.calls kj43 t395 _ _ t396 t399 _ ?side1 ?side2 A54.out).mono ?_); (case side1 => exact kc ((Kd.V_reads' HO398.out).2.2)); (case side2 => exact (Kd.V_reads' HO398.out).2.1); rintro e w130 ⟨rfl, hb⟩; replace HO_373001 := Aside0.mk (vb HO_373001.out hb); replace HO_374001 := Aside0.mk (vb HO_374001.out hb); replace HO_390001 := Aside0.mk (vb HO_390001.out hb); replace HO398 := Aside0.mk (vb HO398.out hb); replace BK372 := Aside0.mk (bb BK372.out hb); replace BK373 := Aside0.mk (bb BK373.out hb); replace BK389 := Aside0.mk (bb BK389.out hb); replace HB := Aside0.mk (below_step bl hb); (try clear hb); obtain ⟨hcz131_0, hcz131_1, hfz131_0, hfz131_1⟩ := bz2 BK372.out) | (go_at_call 32; (with_reducible refine (exact_Bits.calls t364 _ _ t365 t400 _ ?side1 ?side2 A56.out).mono ?_); (case side1 => exact kc ((Kd.V_reads' HO_373001.out).2.2)); (case side2 => exact (Kd.V_reads' HO_373001.out).2.1); rintro e w132 ⟨rfl, hb⟩; replace HO_373001 := Aside0.mk (vb HO_373001.out hb); replace HO_374001 := Aside0.mk (vb HO_374001.out hb); replace HO_390001 := Aside0.mk (vb HO_390001.out hb); replace HO398 := Aside0.mk (vb HO398.out hb); replace BK372 := Aside0.mk (bb BK372.out hb); replace BK373 := Aside0.mk (bb BK373.out hb); replace BK389 := Aside0.mk (bb BK389.out hb); replace HB := Aside0.mk (below_step bl hb); (try clear hb)) | (go_at_call 33; (with_reducible refine (maskref4_Dec_BitsOf.calls kj43 t395 _ _ t396 t405 _ ?side1 ?side2 A58.out).mono ?_); (case side1 => exact kc ((Kd.V_reads' HO398.out).2.2)); (case side2 => exact (Kd.V_reads' HO398.out).2.1); rintro e w135 ⟨rfl, hb⟩; have n0_ := Aside0.mk (vb HO_373001.out hb); have n1_ := Aside0.mk (vb HO_374001.out hb); have n2_ := Aside0.mk (vb HO_390001.out hb); have n3_ := Aside0.mk (vb HO398.out hb); have n4_ := Aside0.mk (vb HO398.out hb); have n5_ := Aside0.mk (bb BK372.out hb); have n6_ := Aside0.mk (bb BK373.out hb); have n7_ := Aside0.mk (bb BK389.out hb); have n8_ := Aside0.mk (below_step bl hb); clear HO_373001; clear HO_374001; clear HO_390001; clear HO398; clear HO398; clear BK372; clear BK373; clear BK389; clear HB; have HB := n8_; clear n0_ n1_ n2_ n3_ n4_ n5_ n6_ n7_ n8_; (try clear hb)))
       go_ret
       exact ⟨by first | rfl | (simp [errW_none, errW_some] <;> rfl) | (simp [*, errW_none, errW_some] <;> rfl), bl⟩
     rw [if_pos c61] at H
     have c61b0 : (t391 == (a1 == 0)) = true := c61
     (try (have c61b1 : decide (t391 = (a1 == 0)) = true := by simpa using c61))
     (try (have c61b2 : (t391 == (a1 == 0)) = true := by simpa using c61))
     clear c61
     by_cases c62 : t391 = true
     rotate_left
     · replace c62 := Bool.eq_false_iff.mpr c62
       subst c62
       have H1 : (some (t390 == 0)) = some r := by rw [if_neg (show ¬ (false = true) by decide)] at H; exact H
       clear H
       have H := H1
       clear H1
       obtain rfl := Option.some.inj H
       obtain ⟨hcz102_0, hcz102_1, hfz102_0, hfz102_1⟩ := bz2 BK372.out
       go_wp2_with (first | (go_at_call 23; (with_reducible refine (exact_Sign.calls t364 _ _ t365 t392 _ ?side1 ?side2 A48.out).mono ?_); (case side1 => exact kc ((Kd.V_reads' HO_373001.out).2.2)); (case side2 => exact (Kd.V_reads' HO_373001.out).2.1); rintro e w103 ⟨rfl, hb⟩; replace HO_373001 := Aside0.mk (vb HO_373001.out hb); replace HO_374001 := Aside0.mk (vb HO_374001.out hb); replace HO_390001 := Aside0.mk (vb HO_390001.out hb); replace BK372 := Aside0.mk (bb BK372.out hb); replace BK373 := Aside0.mk (bb BK373.out hb); replace BK389 := Aside0.mk (bb BK389.out hb); replace HB := Aside0.mk (below_step bl hb); (try clear hb); obtain ⟨hcz104_0, hcz104_1, hfz104_0, hfz104_1⟩ := bz2 BK372.out; obtain ⟨hcz106_0, hcz106_1, hfz106_0, hfz106_1⟩ := bz2 BK373.out) | (go_at_call 31; (with_reducible refine (exact_Cmp.calls kj43 t364 _ _ t365 t368 _ _ t369 t393 _ ?side1 ?side2 ?side3 ?side4 A50.out).mono ?_); (case side1 => exact kc ((Kd.V_reads' HO_373001.out).2.2)); (case side2 => exact (Kd.V_reads' HO_373001.out).2.1); (case side3 => exact kc ((Kd.V_reads' HO_374001.out).2.2)); (case side4 => exact (Kd.V_reads' HO_374001.out).2.1); rintro e w107 ⟨rfl, hb⟩; replace HO_373001 := Aside0.mk (vb HO_373001.out hb); replace HO_374001 := Aside0.mk (vb HO_374001.out hb); replace HO_390001 := Aside0.mk (vb HO_390001.out hb); replace BK372 := Aside0.mk (bb BK372.out hb); replace BK373 := Aside0.mk (bb BK373.out hb); replace BK389 := Aside0.mk (bb BK389.out hb); replace HB := Aside0.mk (below_step bl hb); (try clear hb); obtain ⟨hcz108_0, hcz108_1, hfz108_0, hfz108_1⟩ := bz2 BK372.out) | (go_at_call 25; (with_reducible refine (exact_Text.calls kj43 t364 (fun k_ => (k_ ≠ gb372 ∧ (k_ ≠ gb373 ∧ k_ ≠ gb389))) _ _ t365 t394 _ ?side1 A52.out).mono ?_); (case side1 => exact HO_373001.out); rintro e w109 ⟨rfl, hb⟩; replace HO_373001 := Aside0.mk (vb HO_373001.out hb); replace HO_374001 := Aside0.mk (vb HO_374001.out hb); replace HO_390001 := Aside0.mk (vb HO_390001.out hb); replace BK372 := Aside0.mk (bb BK372.out hb); replace BK373 := Aside0.mk (bb BK373.out hb); replace BK389 := Aside0.mk (bb BK389.out hb); replace HB := Aside0.mk (below_step bl hb); (try clear hb)) | (go_at_call 18; (with_reducible refine (maskref4_DecInt.calls kj43 a0 t395 t396 _ A53.out).mono ?_); rintro e w110 ⟨v397, rfl, ho0, hb⟩; replace HO_373001 := Aside0.mk (vb HO_373001.out hb); replace HO_374001 := Aside0.mk (vb HO_374001.out hb); replace HO_390001 := Aside0.mk (vb HO_390001.out hb); have HO398 := Aside0.mk (Kd.V_lower (Kd.V_mono (ok' := fun k_ => k_ ≠ gb372 ∧ k_ ≠ gb373 ∧ k_ ≠ gb389) ho0 (fun k_ hk_ => ⟨(Kd.freshB (g := gb372) (o := .cells #[.bool t364, .slice Ao20 t365.length co20] 43 (0, 0)) (bk BK372.out) k_ hk_), (Kd.freshB (g := gb373) (o := .cells #[.bool t368, .slice Ao22 t369.length co22] 43 (0, 0)) (bk BK373.out) k_ hk_), (Kd.freshB (g := gb389) (o := .cells #[.bool t384, .slice Ao33 t385.length co33] 43 (0, 0)) (bk BK389.out) k_ hk_)⟩)) (below_size bl)); replace BK372 := Aside0.mk (bb BK372.out hb); replace BK373 := Aside0.mk (bb BK373.out hb); replace BK389 := Aside0.mk (bb BK389.out hb); replace HB := Aside0.mk (below_step bl hb); (try clear hb); (try clear ho0); obtain ⟨Ao111, co111, eo111⟩ := Kd.V_slice HO398.out; subst eo111) | (go_at_call 26; (with_reducible refine (maskref4_Dec_Text.calls kj43 t395 _ _ t396 t399 _ ?side1 ?side2 A54.out).mono ?_); (case side1 => exact kc ((Kd.V_reads' HO398.out).2.2)); (case side2 => exact (Kd.V_reads' HO398.out).2.1); rintro e w112 ⟨rfl, hb⟩; replace HO_373001 := Aside0.mk (vb HO_373001.out hb); replace HO_374001 := Aside0.mk (vb HO_374001.out hb); replace HO_390001 := Aside0.mk (vb HO_390001.out hb); replace HO398 := Aside0.mk (vb HO398.out hb); replace BK372 := Aside0.mk (bb BK372.out hb); replace BK373 := Aside0.mk (bb BK373.out hb); replace BK389 := Aside0.mk (bb BK389.out hb); replace HB := Aside0.mk (below_step bl hb); (try clear hb); obtain ⟨hcz113_0, hcz113_1, hfz113_0, hfz113_1⟩ := bz2 BK372.out) | (go_at_call 32; (with_reducible refine (exact_Bits.calls t364 _ _ t365 t400 _ ?side1 ?side2 A56.out).mono ?_); (case side1 => exact kc ((Kd.V_reads' HO_373001.out).2.2)); (case side2 => exact (Kd.V_reads' HO_373001.out).2.1); rintro e w114 ⟨rfl, hb⟩; replace HO_373001 := Aside0.mk (vb HO_373001.out hb); replace HO_374001 := Aside0.mk (vb HO_374001.out hb); replace HO_390001 := Aside0.mk (vb HO_390001.out hb); replace HO398 := Aside0.mk (vb HO398.out hb); replace BK372 := Aside0.mk (bb BK372.out hb); replace BK373 := Aside0.mk (bb BK373.out hb); replace BK389 := Aside0.mk (bb BK389.out hb); replace HB := Aside0.mk (below_step bl hb); (try clear hb)) | (go_at_call 33; (with_reducible refine (maskref4_Dec_BitsOf.calls kj43 t395 _ _ t396 t405 _ ?side1 ?side2 A58.out).mono ?_); (case side1 => exact kc ((Kd.V_reads' HO398.out).2.2)); (case side2 => exact (Kd.V_reads' HO398.out).2.1); rintro e w117 ⟨rfl, hb⟩; have n0_ := Aside0.mk (vb HO_373001.out hb); have n1_ := Aside0.mk (vb HO_374001.out hb); have n2_ := Aside0.mk (vb HO_390001.out hb); have n3_ := Aside0.mk (vb HO398.out hb); have n4_ := Aside0.mk (vb HO398.out hb); have n5_ := Aside0.mk (bb BK372.out hb); have n6_ := Aside0.mk (bb BK373.out hb); have n7_ := Aside0.mk (bb BK389.out hb); have n8_ := Aside0.mk (below_step bl hb); clear HO_373001; clear HO_374001; clear HO_390001; clear HO398; clear HO398; clear BK372; clear BK373; clear BK389; clear HB; have HB := n8_; clear n0_ n1_ n2_ n3_ n4_ n5_ n6_ n7_ n8_; (try clear hb)))
       go_ret
       exact ⟨by first | rfl | (simp [errW_none, errW_some] <;> rfl) | (simp [*, errW_none, errW_some] <;> rfl), bl⟩
     subst c62
     have H1 : (if t390 = 9223372036854775807 then (some true) else (some false)) = some r := by rw [if_pos rfl] at H; exact H
     clear H
     have H := H1
     clear H1
     by_cases c63 : t390 = 9223372036854775807
     rotate_left
     · rw [if_neg c63] at H
       have c63b0 : (t390 == 9223372036854775807) = false := beq_eq_false_iff_ne.mpr c63
       obtain rfl := Option.some.inj H
       obtain ⟨hcz84_0, hcz84_1, hfz84_0, hfz84_1⟩ := bz2 BK372.out
       go_wp2_with (first | (go_at_call 23; (with_reducible refine (exact_Sign.calls t364 _ _ t365 t392 _ ?side1 ?side2 A48.out).mono ?_); (case side1 => exact kc ((Kd.V_reads' HO_373001.out).2.2)); (case side2 => exact (Kd.V_reads' HO_373001.out).2.1); rintro e w85 ⟨rfl, hb⟩; replace HO_373001 := Aside0.mk (vb HO_373001.out hb); replace HO_374001 := Aside0.mk (vb HO_374001.out hb); replace HO_390001 := Aside0.mk (vb HO_390001.out hb); replace BK372 := Aside0.mk (bb BK372.out hb); replace BK373 := Aside0.mk (bb BK373.out hb); replace BK389 := Aside0.mk (bb BK389.out hb); replace HB := Aside0.mk (below_step bl hb); (try clear hb); obtain ⟨hcz86_0, hcz86_1, hfz86_0, hfz86_1⟩ := bz2 BK372.out; obtain ⟨hcz88_0, hcz88_1, hfz88_0, hfz88_1⟩ := bz2 BK373.out) | (go_at_call 31; (with_reducible refine (exact_Cmp.calls kj43 t364 _ _ t365 t368 _ _ t369 t393 _ ?side1 ?side2 ?side3 ?side4 A50.out).mono ?_); (case side1 => exact kc ((Kd.V_reads' HO_373001.out).2.2)); (case side2 => exact (Kd.V_reads' HO_373001.out).2.1); (case side3 => exact kc ((Kd.V_reads' HO_374001.out).2.2)); (case side4 => exact (Kd.V_reads' HO_374001.out).2.1); rintro e w89 ⟨rfl, hb⟩; replace HO_373001 := Aside0.mk (vb HO_373001.out hb); replace HO_374001 := Aside0.mk (vb HO_374001.out hb); replace HO_390001 := Aside0.mk (vb HO_390001.out hb); replace BK372 := Aside0.mk (bb BK372.out hb); replace BK373 := Aside0.mk (bb BK373.out hb); replace BK389 := Aside0.mk (bb BK389.out hb); replace HB := Aside0.mk (below_step bl hb); (try clear hb); obtain ⟨hcz90_0, hcz90_1, hfz90_0, hfz90_1⟩ := bz2 BK372.out) | (go_at_call 25; (with_reducible refine (exact_Text.calls kj43 t364 (fun k_ => (k_ ≠ gb372 ∧ (k_ ≠ gb373 ∧ k_ ≠ gb389))) _ _ t365 t394 _ ?side1 A52.out).mono ?_); (case side1 => exact HO_373001.out); rintro e w91 ⟨rfl, hb⟩; replace HO_373001 := Aside0.mk (vb HO_373001.out hb); replace HO_374001 := Aside0.mk (vb HO_374001.out hb); replace HO_390001 := Aside0.mk (vb HO_390001.out hb); replace BK372 := Aside0.mk (bb BK372.out hb); replace BK373 := Aside0.mk (bb BK373.out hb); replace BK389 := Aside0.mk (bb BK389.out hb); replace HB := Aside0.mk (below_step bl hb); (try clear hb)) | (go_at_call 18; (with_reducible refine (maskref4_DecInt.calls kj43 a0 t395 t396 _ A53.out).mono ?_); rintro e w92 ⟨v397, rfl, ho0, hb⟩; replace HO_373001 := Aside0.mk (vb HO_373001.out hb); replace HO_374001 := Aside0.mk (vb HO_374001.out hb); replace HO_390001 := Aside0.mk (vb HO_390001.out hb); have HO398 := Aside0.mk (Kd.V_lower (Kd.V_mono (ok' := fun k_ => k_ ≠ gb372 ∧ k_ ≠ gb373 ∧ k_ ≠ gb389) ho0 (fun k_ hk_ => ⟨(Kd.freshB (g := gb372) (o := .cells #[.bool t364, .slice Ao20 t365.length co20] 43 (0, 0)) (bk BK372.out) k_ hk_), (Kd.freshB (g := gb373) (o := .cells #[.bool t368, .slice Ao22 t369.length co22] 43 (0, 0)) (bk BK373.out) k_ hk_), (Kd.freshB (g := gb389) (o := .cells #[.bool t384, .slice Ao33 t385.length co33] 43 (0, 0)) (bk BK389.out) k_ hk_)⟩)) (below_size bl)); replace BK372 := Aside0.mk (bb BK372.out hb); replace BK373 := Aside0.mk (bb BK373.out hb); replace BK389 := Aside0.mk (bb BK389.out hb); replace HB := Aside0.mk (below_step bl hb); (try clear hb); (try clear ho0); obtain ⟨Ao93, co93, eo93⟩ := Kd.V_slice HO398.out; subst eo93) | (go_at_call 26; (with_reducible refine (maskref4_Dec_Text.calls kj43 t395 _ _ t396 t399 _ ?side1 ?side2 A54.out).mono ?_); (case side1 => exact kc ((Kd.V_reads' HO398.out).2.2)); (case side2 => exact (Kd.V_reads' HO398.out).2.1); rintro e w94 ⟨rfl, hb⟩; replace HO_373001 := Aside0.mk (vb HO_373001.out hb); replace HO_374001 := Aside0.mk (vb HO_374001.out hb); replace HO_390001 := Aside0.mk (vb HO_390001.out hb); replace HO398 := Aside0.mk (vb HO398.out hb); replace BK372 := Aside0.mk (bb BK372.out hb); replace BK373 := Aside0.mk (bb BK373.out hb); replace BK389 := Aside0.mk (bb BK389.out hb); replace HB := Aside0.mk (below_step bl hb); (try clear hb); obtain ⟨hcz95_0, hcz95_1, hfz95_0, hfz95_1⟩ := bz2 BK372.out) | (go_at_call 32; (with_reducible refine (exact_Bits.calls t364 _ _ t365 t400 _ ?side1 ?side2 A56.out).mono ?_); (case side1 => exact kc ((Kd.V_reads' HO_373001.out).2.2)); (case side2 => exact (Kd.V_reads' HO_373001.out).2.1); rintro e w96 ⟨rfl, hb⟩; replace HO_373001 := Aside0.mk (vb HO_373001.out hb); replace HO_374001 := Aside0.mk (vb HO_374001.out hb); replace HO_390001 := Aside0.mk (vb HO_390001.out hb); replace HO398 := Aside0.mk (vb HO398.out hb); replace BK372 := Aside0.mk (bb BK372.out hb); replace BK373 := Aside0.mk (bb BK373.out hb); replace BK389 := Aside0.mk (bb BK389.out hb); replace HB := Aside0.mk (below_step bl hb); (try clear hb)) | (go_at_call 33; (with_reducible refine (maskref4_Dec_BitsOf.calls kj43 t395 _ _ t396 t405 _ ?side1 ?side2 A58.out).mono ?_); (case side1 => exact kc ((Kd.V_reads' HO398.out).2.2)); (case side2 => exact (Kd.V_reads' HO398.out).2.1); rintro e w99 ⟨rfl, hb⟩; have n0_ := Aside0.mk (vb HO_373001.out hb); have n1_ := Aside0.mk (vb HO_374001.out hb); have n2_ := Aside0.mk (vb HO_390001.out hb); have n3_ := Aside0.mk (vb HO398.out hb); have n4_ := Aside0.mk (vb HO398.out hb); have n5_ := Aside0.mk (bb BK372.out hb); have n6_ := Aside0.mk (bb BK373.out hb); have n7_ := Aside0.mk (bb BK389.out hb); have n8_ := Aside0.mk (below_step bl hb); clear HO_373001; clear HO_374001; clear HO_390001; clear HO398; clear HO398; clear BK372; clear BK373; clear BK389; clear HB; have HB := n8_; clear n0_ n1_ n2_ n3_ n4_ n5_ n6_ n7_ n8_; (try clear hb)))
       go_ret
       exact ⟨by first | rfl | (simp [errW_none, errW_some] <;> rfl) | (simp [*, errW_none, errW_some] <;> rfl), bl⟩
     rw [if_pos c63] at H
     have c63b0 : (t390 == 9223372036854775807) = true := beq_iff_eq.mpr c63
     clear c63
     obtain rfl := Option.some.inj H
     obtain ⟨hcz66_0, hcz66_1, hfz66_0, hfz66_1⟩ := bz2 BK372.out
     go_wp2_with (first | (go_at_call 23; (with_reducible refine (exact_Sign.calls t364 _ _ t365 t392 _ ?side1 ?side2 A48.out).mono ?_); (case side1 => exact kc ((Kd.V_reads' HO_373001.out).2.2)); (case side2 => exact (Kd.V_reads' HO_373001.out).2.1); rintro e w67 ⟨rfl, hb⟩; replace HO_373001 := Aside0.mk (vb HO_373001.out hb); replace HO_374001 := Aside0.mk (vb HO_374001.out hb); replace HO_390001 := Aside0.mk (vb HO_390001.out hb); replace BK372 := Aside0.mk (bb BK372.out hb); replace BK373 := Aside0.mk (bb BK373.out hb); replace BK389 := Aside0.mk (bb BK389.out hb); replace HB := Aside0.mk (below_step bl hb); (try clear hb); obtain ⟨hcz68_0, hcz68_1, hfz68_0, hfz68_1⟩ := bz2 BK372.out; obtain ⟨hcz70_0, hcz70_1, hfz70_0, hfz70_1⟩ := bz2 BK373.out) | (go_at_call 31; (with_reducible refine (exact_Cmp.calls kj43 t364 _ _ t365 t368 _ _ t369 t393 _ ?side1 ?side2 ?side3 ?side4 A50.out).mono ?_); (case side1 => exact kc ((Kd.V_reads' HO_373001.out).2.2)); (case side2 => exact (Kd.V_reads' HO_373001.out).2.1); (case side3 => exact kc ((Kd.V_reads' HO_374001.out).2.2)); (case side4 => exact (Kd.V_reads' HO_374001.out).2.1); rintro e w71 ⟨rfl, hb⟩; replace HO_373001 := Aside0.mk (vb HO_373001.out hb); replace HO_374001 := Aside0.mk (vb HO_374001.out hb); replace HO_390001 := Aside0.mk (vb HO_390001.out hb); replace BK372 := Aside0.mk (bb BK372.out hb); replace BK373 := Aside0.mk (bb BK373.out hb); replace BK389 := Aside0.mk (bb BK389.out hb); replace HB := Aside0.mk (below_step bl hb); (try clear hb); obtain ⟨hcz72_0, hcz72_1, hfz72_0, hfz72_1⟩ := bz2 BK372.out) | (go_at_call 25; (with_reducible refine (exact_Text.calls kj43 t364 (fun k_ => (k_ ≠ gb372 ∧ (k_ ≠ gb373 ∧ k_ ≠ gb389))) _ _ t365 t394 _ ?side1 A52.out).mono ?_); (case side1 => exact HO_373001.out); rintro e w73 ⟨rfl, hb⟩; replace HO_373001 := Aside0.mk (vb HO_373001.out hb); replace HO_374001 := Aside0.mk (vb HO_374001.out hb); replace HO_390001 := Aside0.mk (vb HO_390001.out hb); replace BK372 := Aside0.mk (bb BK372.out hb); replace BK373 := Aside0.mk (bb BK373.out hb); replace BK389 := Aside0.mk (bb BK389.out hb); replace HB := Aside0.mk (below_step bl hb); (try clear hb)) | (go_at_call 18; (with_reducible refine (maskref4_DecInt.calls kj43 a0 t395 t396 _ A53.out).mono ?_); rintro e w74 ⟨v397, rfl, ho0, hb⟩; replace HO_373001 := Aside0.mk (vb HO_373001.out hb); replace HO_374001 := Aside0.mk (vb HO_374001.out hb); replace HO_390001 := Aside0.mk (vb HO_390001.out hb); have HO398 := Aside0.mk (Kd.V_lower (Kd.V_mono (ok' := fun k_ => k_ ≠ gb372 ∧ k_ ≠ gb373 ∧ k_ ≠ gb389) ho0 (fun k_ hk_ => ⟨(Kd.freshB (g := gb372) (o := .cells #[.bool t364, .slice Ao20 t365.length co20] 43 (0, 0)) (bk BK372.out) k_ hk_), (Kd.freshB (g := gb373) (o := .cells #[.bool t368, .slice Ao22 t369.length co22] 43 (0, 0)) (bk BK373.out) k_ hk_), (Kd.freshB (g := gb389) (o := .cells #[.bool t384, .slice Ao33 t385.length co33] 43 (0, 0)) (bk BK389.out) k_ hk_)⟩)) (below_size bl)); replace BK372 := Aside0.mk (bb BK372.out hb); replace BK373 := Aside0.mk (bb BK373.out hb); replace BK389 := Aside0.mk (bb BK389.out hb); replace HB := Aside0.mk (below_step bl hb); (try clear hb); (try clear ho0); obtain ⟨Ao75, co75, eo75⟩ := Kd.V_slice HO398.out; subst eo75) | (go_at_call 26; (with_reducible refine (maskref4_Dec_Text.calls kj43 t395 _ _ t396 t399 _ ?side1 ?side2 A54.out).mono ?_); (case side1 => exact kc ((Kd.V_reads' HO398.out).2.2)); (case side2 => exact (Kd.V_reads' HO398.out).2.1); rintro e w76 ⟨rfl, hb⟩; replace HO_373001 := Aside0.mk (vb HO_373001.out hb); replace HO_374001 := Aside0.mk (vb HO_374001.out hb); replace HO_390001 := Aside0.mk (vb HO_390001.out hb); replace HO398 := Aside0.mk (vb HO398.out hb); replace BK372 := Aside0.mk (bb BK372.out hb); replace BK373 := Aside0.mk (bb BK373.out hb); replace BK389 := Aside0.mk (bb BK389.out hb); replace HB := Aside0.mk (below_step bl hb); (try clear hb); obtain ⟨hcz77_0, hcz77_1, hfz77_0, hfz77_1⟩ := bz2 BK372.out) | (go_at_call 32; (with_reducible refine (exact_Bits.calls t364 _ _ t365 t400 _ ?side1 ?side2 A56.out).mono ?_); (case side1 => exact kc ((Kd.V_reads' HO_373001.out).2.2)); (case side2 => exact (Kd.V_reads' HO_373001.out).2.1); rintro e w78 ⟨rfl, hb⟩; replace HO_373001 := Aside0.mk (vb HO_373001.out hb); replace HO_374001 := Aside0.mk (vb HO_374001.out hb); replace HO_390001 := Aside0.mk (vb HO_390001.out hb); replace HO398 := Aside0.mk (vb HO398.out hb); replace BK372 := Aside0.mk (bb BK372.out hb); replace BK373 := Aside0.mk (bb BK373.out hb); replace BK389 := Aside0.mk (bb BK389.out hb); replace HB := Aside0.mk (below_step bl hb); (try clear hb)) | (go_at_call 33; (with_reducible refine (maskref4_Dec_BitsOf.calls kj43 t395 _ _ t396 t405 _ ?side1 ?side2 A58.out).mono ?_); (case side1 => exact kc ((Kd.V_reads' HO398.out).2.2)); (case side2 => exact (Kd.V_reads' HO398.out).2.1); rintro e w81 ⟨rfl, hb⟩; have n0_ := Aside0.mk (vb HO_373001.out hb); have n1_ := Aside0.mk (vb HO_374001.out hb); have n2_ := Aside0.mk (vb HO_390001.out hb); have n3_ := Aside0.mk (vb HO398.out hb); have n4_ := Aside0.mk (vb HO398.out hb); have n5_ := Aside0.mk (bb BK372.out hb); have n6_ := Aside0.mk (bb BK373.out hb); have n7_ := Aside0.mk (bb BK389.out hb); have n8_ := Aside0.mk (below_step bl hb); clear HO_373001; clear HO_374001; clear HO_390001; clear HO398; clear HO398; clear BK372; clear BK373; clear BK389; clear HB; have HB := n8_; clear n0_ n1_ n2_ n3_ n4_ n5_ n6_ n7_ n8_; (try clear hb)))
     go_ret
     exact ⟨by first | rfl | (simp [errW_none, errW_some] <;> rfl) | (simp [*, errW_none, errW_some] <;> rfl), bl⟩

/-- THE ONE PURE STATEMENT of masklaw4_ExactSmalls: yours. -/
def masklaw4_ExactSmalls.Pure : Prop := ∀ (a0 : Int) (a1 : Int), (Lit.int .i64 a0).wf = true → (Lit.int .i64 a1).wf = true → ∃ k, masklaw4_ExactSmalls.f k a0 a1 = some true
theorem masklaw4_ExactSmalls.walk (P : masklaw4_ExactSmalls.Pure) (a0 : Int) (a1 : Int) (w : World) (w0 : (Lit.int .i64 a0).wf = true) (w1 : (Lit.int .i64 a1).wf = true) :
 Calls Try.prog 5 #[.int .i64 a0, .int .i64 a1] w fun e w' => e = .returned (.bool true) ∧ Below w.heap.size w w' := by
 obtain ⟨k, h⟩ := P a0 a1 w0 w1
 refine (masklaw4_ExactSmalls.calls k a0 a1 true w h).mono ?_
 rintro e w' ⟨rfl, hd⟩
 exact ⟨rfl, hd⟩

end Go.Proofs.Ytlbljdjbcbgnlaa.PX
