-- PRINTED by print.py (a twelfth state) out of the translation. Not trusted: Lean checks it.
import Derived.Test.YtlbljdjbcbgnlaaCmp
import Derived.Test.YtlbljdjbcbgnlaaPXx0
import Derived.Test.YtlbljdjbcbgnlaaPXx9
import Derived.Test.YtlbljdjbcbgnlaaPXx16
import Derived.Test.YtlbljdjbcbgnlaaPXx25
import Derived.Test.YtlbljdjbcbgnlaaPXx35
import Derived.Test.YtlbljdjbcbgnlaaPXx38
import Derived.Test.YtlbljdjbcbgnlaaPXx47
import Derived.Test.YtlbljdjbcbgnlaaPXx66
namespace Go.Proofs.Ytlbljdjbcbgnlaa.PX
open Go.RowKit Go.Proofs.YtlbljdjbcbgnlaaW.PrintWords Go.Proofs.YtlbljdjbcbgnlaaW.PrintLast Go.Proofs.YtlbljdjbcbgnlaaW.PrintMore
attribute [local go_sem] max2_int min2_int max_two min_two max_three min_three max_four min_four   -- for this text's walks alone
private theorem z1 {α : Type} {l : List α} {i : Nat} {a : α} : l.toArray.setIfInBounds i a = (l.set i a).toArray := List.setIfInBounds_toArray _ _ _
private theorem z2 {α : Type} {x : α} {xs : List α} {a : α} : (x :: xs).set 0 a = a :: xs := List.set_cons_zero
private theorem z3 {α : Type} {x : α} {xs : List α} {n : Nat} {a : α} : (x :: xs).set (n + 1) a = x :: xs.set n a := List.set_cons_succ
private abbrev zb (n m : Nat) : Array Bool := (List.replicate n true ++ List.replicate m false).toArray
set_option linter.unusedVariables false
set_option linter.unusedSimpArgs false

/-! ### masklaw4_ExactReads: function 6 -/
def masklaw4_ExactReads.f (k : Nat) (a0 : ByteArray) : Option (Bool) := (masklaw4_exacts.f).bind fun t397 => (if t397 = true then ((exact_Read.f k a0).bind fun bt398 => (if (a0.size : Int) > 20000 then (if bt398.2.2 = 3 then ((exact_Sign.f bt398.1 bt398.2.1).bind fun t404 => (some (t404 == 0))) else (none)) else ((maskref4_IsDec.f k a0).bind fun t405 => (if t405 = true then (if (a0.size : Int) > 400 then (if bt398.2.2 = 3 then (some true) else (if bt398.2.2 = 0 then ((exact_Text.f k bt398.1 bt398.2.1).bind fun t406 => (some (t406.toList == a0.toList))) else (none))) else ((maskref4_DecOf.f k a0).bind fun bt408 => (if bt398.2.2 = 0 then ((exact_Text.f k bt398.1 bt398.2.1).bind fun t413 => (if t413.toList = a0.toList then ((exact_Bits.f bt398.1 bt398.2.1).bind fun t414 => ((maskref4_Dec_BitsOf.f k bt408.1 bt408.2).bind fun t415 => (if t414 = t415 then ((exact_Neg.f bt398.1 bt398.2.1).bind fun bt416 => ((exact_Text.f k bt416.1 bt416.2).bind fun t420 => ((maskref4_DecInt.f k (-1)).bind fun bt421 => ((maskref4_Dec_Times.f k bt408.1 bt408.2 bt421.1 bt421.2).bind fun bt425 => ((maskref4_Dec_Text.f k bt425.1 bt425.2).bind fun t429 => (if t420.toList = t429.toList then ((exact_Abs.f bt398.1 bt398.2.1).bind fun bt430 => ((exact_Text.f k bt430.1 bt430.2).bind fun t434 => ((maskref4_Dec_Text.f k false bt408.2).bind fun t435 => (some (t434.toList == t435.toList))))) else (none))))))) else (none)))) else (none))) else (none)))) else (if bt398.2.2 = 10 then ((exact_Sign.f bt398.1 bt398.2.1).bind fun t407 => (some (t407 == 0))) else (none)))))) else (none))
theorem masklaw4_ExactReads.mono : ∀ a0 k, LeO (masklaw4_ExactReads.f k a0) (masklaw4_ExactReads.f (k + 1) a0) := by
 intro a0 k
 unfold masklaw4_ExactReads.f
 repeat' first
  | (with_reducible exact exact_Read.mono _ _)
  | (with_reducible exact exact_Text.mono _ _ _)
  | (with_reducible exact maskref4_DecInt.mono _ _)
  | (with_reducible exact maskref4_DecOf.mono _ _)
  | (with_reducible exact maskref4_Dec_BitsOf.mono _ _ _)
  | (with_reducible exact maskref4_Dec_Text.mono _ _ _)
  | (with_reducible exact maskref4_Dec_Times.mono _ _ _ _ _)
  | (with_reducible exact maskref4_IsDec.mono _ _)
  | (with_reducible exact LeO.refl _)
  | (with_reducible exact LeO.none _)
  | (with_reducible refine LeO.ite ?_ ?_)
  | (with_reducible refine LeO.bind ?_ (fun _ => ?_))
def masklaw4_ExactReads.T11 : Bool × List (List Nat × List Nat) := (true, [([], []), ([0], [0]), ([1], [1]), ([2], [2]), ([3, 2, 2], [2, 3]), ([2], [2]), ([4, 5, 2], [2, 4, 5]), ([2, 6], [2, 6]), ([7, 4], [7]), ([8], [8]), ([9, 8, 8], [8, 9]), ([8], [8]), ([11, 10, 8], [8, 11]), ([10, 12, 8], [8, 10, 12]), ([8, 13], [8, 13]), ([14, 12], [14]), ([15], [15]), ([16, 15, 15], [15, 16]), ([17, 17, 15], [15, 17]), ([15], [15]), ([18, 15], [15]), ([19, 20, 20, 15], [15, 19, 20]), ([21, 21, 15], [15, 21]), ([18, 22, 15], [15, 18, 22]), ([15, 23], [15, 23]), ([24, 22], [24]), ([25], [25]), ([26, 25, 25], [25, 26]), ([27, 27, 25], [25, 27]), ([25], [25]), ([29, 25], [25, 29]), ([30, 25], [25, 30]), ([31, 28, 25], [25, 31]), ([28, 32, 25], [25, 28, 32]), ([25, 33], [25, 33]), ([34, 32, 0, 1, 2, 3, 4, 5, 6, 7, 8, 9, 10, 11, 12, 13, 14, 15, 16, 17, 18, 19, 20, 21, 22, 23, 24, 25, 26, 27, 28, 29, 30, 31, 32, 33, 34], [34])])
def masklaw4_ExactReads.B11 : List Nat := [0, 1, 3, 7, 15, 7, 63, 127, 255, 511, 1023, 511, 4095, 8191, 16383, 32767, 65535, 131071, 262143, 65535, 524287, 2097151, 4194303, 8388607, 16777215, 33554431, 67108863, 134217727, 268435455, 67108863, 603979775, 1677721599, 4294967295, 8589934591, 17179869183, 34359738367]
theorem masklaw4_ExactReads.tab11 : rtab .any (opsOf Try.f6 11) = masklaw4_ExactReads.T11 := by kernel_rfl
theorem masklaw4_ExactReads.bits11 : waitsOk masklaw4_ExactReads.T11.2 masklaw4_ExactReads.B11 = true := by kernel_rfl
set_option maxHeartbeats 8000000 in
set_option maxRecDepth 100000 in
theorem masklaw4_ExactReads.calls (k : Nat) (a0 : ByteArray) (r : Bool) (w : World) (h : masklaw4_ExactReads.f k a0 = some r) :
 Calls Try.prog 6 #[.string a0] w fun e w' => e = .returned (.bool r) ∧ Below w.heap.size w w' := by
 have HB := Aside0.mk (Below.refl w.heap.size w)
 have H : ((masklaw4_exacts.f).bind fun t397 => (if t397 = true then ((exact_Read.f k a0).bind fun bt398 => (if (a0.size : Int) > 20000 then (if bt398.2.2 = 3 then ((exact_Sign.f bt398.1 bt398.2.1).bind fun t404 => (some (t404 == 0))) else (none)) else ((maskref4_IsDec.f k a0).bind fun t405 => (if t405 = true then (if (a0.size : Int) > 400 then (if bt398.2.2 = 3 then (some true) else (if bt398.2.2 = 0 then ((exact_Text.f k bt398.1 bt398.2.1).bind fun t406 => (some (t406.toList == a0.toList))) else (none))) else ((maskref4_DecOf.f k a0).bind fun bt408 => (if bt398.2.2 = 0 then ((exact_Text.f k bt398.1 bt398.2.1).bind fun t413 => (if t413.toList = a0.toList then ((exact_Bits.f bt398.1 bt398.2.1).bind fun t414 => ((maskref4_Dec_BitsOf.f k bt408.1 bt408.2).bind fun t415 => (if t414 = t415 then ((exact_Neg.f bt398.1 bt398.2.1).bind fun bt416 => ((exact_Text.f k bt416.1 bt416.2).bind fun t420 => ((maskref4_DecInt.f k (-1)).bind fun bt421 => ((maskref4_Dec_Times.f k bt408.1 bt408.2 bt421.1 bt421.2).bind fun bt425 => ((maskref4_Dec_Text.f k bt425.1 bt425.2).bind fun t429 => (if t420.toList = t429.toList then ((exact_Abs.f bt398.1 bt398.2.1).bind fun bt430 => ((exact_Text.f k bt430.1 bt430.2).bind fun t434 => ((maskref4_Dec_Text.f k false bt408.2).bind fun t435 => (some (t434.toList == t435.toList))))) else (none))))))) else (none)))) else (none))) else (none)))) else (if bt398.2.2 = 10 then ((exact_Sign.f bt398.1 bt398.2.1).bind fun t407 => (some (t407 == 0))) else (none)))))) else (none))) = some r := h
 clear h
 replace H := Option.bind_eq_some_iff.mp H
 obtain ⟨t397, A20, H⟩ := H
 replace H : (if t397 = true then ((exact_Read.f k a0).bind fun bt398 => (if (a0.size : Int) > 20000 then (if bt398.2.2 = 3 then ((exact_Sign.f bt398.1 bt398.2.1).bind fun t404 => (some (t404 == 0))) else (none)) else ((maskref4_IsDec.f k a0).bind fun t405 => (if t405 = true then (if (a0.size : Int) > 400 then (if bt398.2.2 = 3 then (some true) else (if bt398.2.2 = 0 then ((exact_Text.f k bt398.1 bt398.2.1).bind fun t406 => (some (t406.toList == a0.toList))) else (none))) else ((maskref4_DecOf.f k a0).bind fun bt408 => (if bt398.2.2 = 0 then ((exact_Text.f k bt398.1 bt398.2.1).bind fun t413 => (if t413.toList = a0.toList then ((exact_Bits.f bt398.1 bt398.2.1).bind fun t414 => ((maskref4_Dec_BitsOf.f k bt408.1 bt408.2).bind fun t415 => (if t414 = t415 then ((exact_Neg.f bt398.1 bt398.2.1).bind fun bt416 => ((exact_Text.f k bt416.1 bt416.2).bind fun t420 => ((maskref4_DecInt.f k (-1)).bind fun bt421 => ((maskref4_Dec_Times.f k bt408.1 bt408.2 bt421.1 bt421.2).bind fun bt425 => ((maskref4_Dec_Text.f k bt425.1 bt425.2).bind fun t429 => (if t420.toList = t429.toList then ((exact_Abs.f bt398.1 bt398.2.1).bind fun bt430 => ((exact_Text.f k bt430.1 bt430.2).bind fun t434 => ((maskref4_Dec_Text.f k false bt408.2).bind fun t435 => (some (t434.toList == t435.toList))))) else (none))))))) else (none)))) else (none))) else (none)))) else (if bt398.2.2 = 10 then ((exact_Sign.f bt398.1 bt398.2.1).bind fun t407 => (some (t407 == 0))) else (none)))))) else (none)) = some r := H
 have A2 := Aside0.mk A20
 clear A20
 by_cases c3 : t397 = true
 rotate_left
 · replace c3 := Bool.eq_false_iff.mpr c3
   subst c3
   have H1 : (none) = some r := by rw [if_neg (show ¬ (false = true) by decide)] at H; exact H
   clear H
   have H := H1
   clear H1
   exact absurd H (by simp)
 subst c3
 have H1 : ((exact_Read.f k a0).bind fun bt398 => (if (a0.size : Int) > 20000 then (if bt398.2.2 = 3 then ((exact_Sign.f bt398.1 bt398.2.1).bind fun t404 => (some (t404 == 0))) else (none)) else ((maskref4_IsDec.f k a0).bind fun t405 => (if t405 = true then (if (a0.size : Int) > 400 then (if bt398.2.2 = 3 then (some true) else (if bt398.2.2 = 0 then ((exact_Text.f k bt398.1 bt398.2.1).bind fun t406 => (some (t406.toList == a0.toList))) else (none))) else ((maskref4_DecOf.f k a0).bind fun bt408 => (if bt398.2.2 = 0 then ((exact_Text.f k bt398.1 bt398.2.1).bind fun t413 => (if t413.toList = a0.toList then ((exact_Bits.f bt398.1 bt398.2.1).bind fun t414 => ((maskref4_Dec_BitsOf.f k bt408.1 bt408.2).bind fun t415 => (if t414 = t415 then ((exact_Neg.f bt398.1 bt398.2.1).bind fun bt416 => ((exact_Text.f k bt416.1 bt416.2).bind fun t420 => ((maskref4_DecInt.f k (-1)).bind fun bt421 => ((maskref4_Dec_Times.f k bt408.1 bt408.2 bt421.1 bt421.2).bind fun bt425 => ((maskref4_Dec_Text.f k bt425.1 bt425.2).bind fun t429 => (if t420.toList = t429.toList then ((exact_Abs.f bt398.1 bt398.2.1).bind fun bt430 => ((exact_Text.f k bt430.1 bt430.2).bind fun t434 => ((maskref4_Dec_Text.f k false bt408.2).bind fun t435 => (some (t434.toList == t435.toList))))) else (none))))))) else (none)))) else (none))) else (none)))) else (if bt398.2.2 = 10 then ((exact_Sign.f bt398.1 bt398.2.1).bind fun t407 => (some (t407 == 0))) else (none)))))) = some r := by rw [if_pos rfl] at H; exact H
 clear H
 have H := H1
 clear H1
 replace H := Option.bind_eq_some_iff.mp H
 obtain ⟨⟨t398, t399, t402⟩, A40, H⟩ := H
 replace H : (if (a0.size : Int) > 20000 then (if t402 = 3 then ((exact_Sign.f t398 t399).bind fun t404 => (some (t404 == 0))) else (none)) else ((maskref4_IsDec.f k a0).bind fun t405 => (if t405 = true then (if (a0.size : Int) > 400 then (if t402 = 3 then (some true) else (if t402 = 0 then ((exact_Text.f k t398 t399).bind fun t406 => (some (t406.toList == a0.toList))) else (none))) else ((maskref4_DecOf.f k a0).bind fun bt408 => (if t402 = 0 then ((exact_Text.f k t398 t399).bind fun t413 => (if t413.toList = a0.toList then ((exact_Bits.f t398 t399).bind fun t414 => ((maskref4_Dec_BitsOf.f k bt408.1 bt408.2).bind fun t415 => (if t414 = t415 then ((exact_Neg.f t398 t399).bind fun bt416 => ((exact_Text.f k bt416.1 bt416.2).bind fun t420 => ((maskref4_DecInt.f k (-1)).bind fun bt421 => ((maskref4_Dec_Times.f k bt408.1 bt408.2 bt421.1 bt421.2).bind fun bt425 => ((maskref4_Dec_Text.f k bt425.1 bt425.2).bind fun t429 => (if t420.toList = t429.toList then ((exact_Abs.f t398 t399).bind fun bt430 => ((exact_Text.f k bt430.1 bt430.2).bind fun t434 => ((maskref4_Dec_Text.f k false bt408.2).bind fun t435 => (some (t434.toList == t435.toList))))) else (none))))))) else (none)))) else (none))) else (none)))) else (if t402 = 10 then ((exact_Sign.f t398 t399).bind fun t407 => (some (t407 == 0))) else (none))))) = some r := H
 have A4 := Aside0.mk A40
 clear A40
 by_cases c5 : (a0.size : Int) > 20000
 · rw [if_pos c5] at H
   have c5b0 : decide (20000 < (a0.size : Int)) = true := decide_eq_true c5
   have c5b1 : decide (20000 < a0.size) = true := decide_eq_true (by omega)
   clear c5
   by_cases c6 : t402 = 3
   rotate_left
   · rw [if_neg c6] at H
     exact absurd H (by simp)
   rw [if_pos c6] at H
   have c6b0 : (t402 == 3) = true := beq_iff_eq.mpr c6
   clear c6
   replace H := Option.bind_eq_some_iff.mp H
   obtain ⟨t404, A70, H⟩ := H
   replace H : (some (t404 == 0)) = some r := H
   have A7 := Aside0.mk A70
   clear A70
   obtain rfl := Option.some.inj H
   go_enter Try.func6, Try.ntmps6
   go_wp2_with (first | ((with_reducible refine gate_callee (f := 11) rfl ?_); refine goesL_ (some 6) rfl rfl Try.func11 (by kernel_rfl) rfl #[] rfl (by (try simp only [List.map_toArray, List.map_cons, List.map_nil]); first | done | rfl | (simp only [List.length_drop, List.length_take]; rfl)) ?_; (with_reducible refine (masklaw4_exacts.calls  true _ A2.out).mono ?_); rintro e w8 ⟨rfl, hb⟩; refine ⟨_, rfl, ?_⟩; replace HB := Aside0.mk (below_step bl hb); (try clear hb)) | ((with_reducible refine gate_callee (f := 34) rfl ?_); refine goesL_ (some 10) rfl rfl Try.func34 (by kernel_rfl) rfl #[.string a0] rfl (by (try simp only [List.map_toArray, List.map_cons, List.map_nil]); first | done | rfl | (simp only [List.length_drop, List.length_take]; rfl)) ?_; (with_reducible refine (exact_Read.calls k a0 t398 t399 t402 _ A4.out).mono ?_); rintro e w9 ⟨v400, rfl, ho0, hb⟩; refine ⟨_, rfl, ?_⟩; have HO401 := Aside0.mk (Kd.V_lower (Kd.V_mono (ok' := fun k_ => True) ho0 (fun k_ hk_ => trivial)) (below_size bl)); replace HB := Aside0.mk (below_step bl hb); (try clear hb); (try clear ho0)) | ((with_reducible refine gate_dst (N := 3) rfl ?_); refine box_event ?hg (N := 3) ?hd (cs := #[.bool false, .slice none 0 0]) (t := 43) ?hr ?_; (case hd => rfl); (case hg => rfl); (case hr => first | (go_simp; done) | (go_simp; rfl)); intro gb403 hg w10 hbox hb; replace HO401 := Aside0.mk (Kd.V_below (Kd.V_elderB (vk HO401.out) gb403 (Nat.le_of_eq hg.symm)) hb); have BK403 := Aside0.mk (hbox); have GE403 := Aside0.mk (ge (w := w) hg); replace HB := Aside0.mk (below_step bl hb); clear hb hbox hg; obtain ⟨hcz11_0, hcz11_1, hfz11_0, hfz11_1⟩ := bz2 BK403.out; obtain ⟨Ao12, co12, eo12⟩ := Kd.V_slice HO401.out; subst eo12) | (go_at_call 23; (with_reducible refine (exact_Sign.calls t398 _ _ t399 t404 _ ?side1 ?side2 A7.out).mono ?_); (case side1 => refine (Kd.V_reads' (e := 97) (base := w.heap.size) (ok := fun k_ => (True ∧ k_ ≠ gb403)) (n := t399.length) (c := co12) ?_).2.2; exact (by (with_reducible repeat (first | apply Kd.V_alloc | apply Kd.V_drewN | apply Kd.V_drew)); exact (Kd.V_mono (Kd.V_far (p := ⟨gb403, 1, none⟩) (Kd.V_far (p := ⟨gb403, 0, none⟩) (Kd.V_mono HO401.out (fun k_ hk => (⟨hk, hk.2⟩ : _ ∧ k_ ≠ gb403))) (fun _ hk => hk.2) (.bool t398)) (fun _ hk => hk.2) (.slice Ao12 t399.length co12)) (fun _ h_ => h_.1)))); (case side2 => exact (Kd.V_reads' HO401.out).2.1); rintro e w13 ⟨rfl, hb⟩; replace HO401 := Aside0.mk (Kd.V_below (by (with_reducible repeat (first | apply Kd.V_alloc | apply Kd.V_drewN | apply Kd.V_drew)); exact (Kd.V_mono (Kd.V_far (p := ⟨gb403, 1, none⟩) (Kd.V_far (p := ⟨gb403, 0, none⟩) (Kd.V_mono HO401.out (fun k_ hk => (⟨hk, hk.2⟩ : _ ∧ k_ ≠ gb403))) (fun _ hk => hk.2) (.bool t398)) (fun _ hk => hk.2) (.slice Ao12 t399.length co12)) (fun _ h_ => h_.1))) hb); replace BK403 := Aside0.mk (blk_below (g := gb403) (o := .cells #[.bool t398, .slice Ao12 t399.length co12] 43 (0, 0)) (by (with_reducible repeat (first | refine blk_drewN ?_ _ | refine blk_drew ?_ | refine blk_alloc ?_ _)); refine blk_put (cs := #[.bool t398, .slice none 0 0]) ?_ 1 _ rfl; (with_reducible repeat (first | refine blk_drewN ?_ _ | refine blk_drew ?_ | refine blk_alloc ?_ _)); refine blk_put (cs := #[.bool false, .slice none 0 0]) ?_ 0 _ rfl; (with_reducible repeat (first | refine blk_drewN ?_ _ | refine blk_drew ?_ | refine blk_alloc ?_ _)); exact BK403.out) hb); replace HB := Aside0.mk (below_step bl hb); (try clear hb)))
   go_ret
   exact ⟨by first | rfl | (simp [errW_none, errW_some] <;> rfl) | (simp [*, errW_none, errW_some] <;> rfl), bl⟩
 rw [if_neg c5] at H
 have c5b0 : decide (20000 < (a0.size : Int)) = false := decide_eq_false c5
 clear c5
 replace H := Option.bind_eq_some_iff.mp H
 obtain ⟨t405, A140, H⟩ := H
 replace H : (if t405 = true then (if (a0.size : Int) > 400 then (if t402 = 3 then (some true) else (if t402 = 0 then ((exact_Text.f k t398 t399).bind fun t406 => (some (t406.toList == a0.toList))) else (none))) else ((maskref4_DecOf.f k a0).bind fun bt408 => (if t402 = 0 then ((exact_Text.f k t398 t399).bind fun t413 => (if t413.toList = a0.toList then ((exact_Bits.f t398 t399).bind fun t414 => ((maskref4_Dec_BitsOf.f k bt408.1 bt408.2).bind fun t415 => (if t414 = t415 then ((exact_Neg.f t398 t399).bind fun bt416 => ((exact_Text.f k bt416.1 bt416.2).bind fun t420 => ((maskref4_DecInt.f k (-1)).bind fun bt421 => ((maskref4_Dec_Times.f k bt408.1 bt408.2 bt421.1 bt421.2).bind fun bt425 => ((maskref4_Dec_Text.f k bt425.1 bt425.2).bind fun t429 => (if t420.toList = t429.toList then ((exact_Abs.f t398 t399).bind fun bt430 => ((exact_Text.f k bt430.1 bt430.2).bind fun t434 => ((maskref4_Dec_Text.f k false bt408.2).bind fun t435 => (some (t434.toList == t435.toList))))) else (none))))))) else (none)))) else (none))) else (none)))) else (if t402 = 10 then ((exact_Sign.f t398 t399).bind fun t407 => (some (t407 == 0))) else (none))) = some r := H
 have A14 := Aside0.mk A140
 clear A140
 by_cases c15 : t405 = true
 rotate_left
 · replace c15 := Bool.eq_false_iff.mpr c15
   subst c15
   have H1 : (if t402 = 10 then ((exact_Sign.f t398 t399).bind fun t407 => (some (t407 == 0))) else (none)) = some r := by rw [if_neg (show ¬ (false = true) by decide)] at H; exact H
   clear H
   have H := H1
   clear H1
   by_cases c76 : t402 = 10
   rotate_left
   · rw [if_neg c76] at H
     exact absurd H (by simp)
   rw [if_pos c76] at H
   have c76b0 : (t402 == 10) = true := beq_iff_eq.mpr c76
   clear c76
   replace H := Option.bind_eq_some_iff.mp H
   obtain ⟨t407, A770, H⟩ := H
   replace H : (some (t407 == 0)) = some r := H
   have A77 := Aside0.mk A770
   clear A770
   obtain rfl := Option.some.inj H
   go_enter Try.func6, Try.ntmps6
   go_wp2_with (first | ((with_reducible refine gate_callee (f := 11) rfl ?_); refine goesL_ (some 6) rfl rfl Try.func11 (by kernel_rfl) rfl #[] rfl (by (try simp only [List.map_toArray, List.map_cons, List.map_nil]); first | done | rfl | (simp only [List.length_drop, List.length_take]; rfl)) ?_; (with_reducible refine (masklaw4_exacts.calls  true _ A2.out).mono ?_); rintro e w78 ⟨rfl, hb⟩; refine ⟨_, rfl, ?_⟩; replace HB := Aside0.mk (below_step bl hb); (try clear hb)) | ((with_reducible refine gate_callee (f := 34) rfl ?_); refine goesL_ (some 10) rfl rfl Try.func34 (by kernel_rfl) rfl #[.string a0] rfl (by (try simp only [List.map_toArray, List.map_cons, List.map_nil]); first | done | rfl | (simp only [List.length_drop, List.length_take]; rfl)) ?_; (with_reducible refine (exact_Read.calls k a0 t398 t399 t402 _ A4.out).mono ?_); rintro e w79 ⟨v400, rfl, ho0, hb⟩; refine ⟨_, rfl, ?_⟩; have HO401 := Aside0.mk (Kd.V_lower (Kd.V_mono (ok' := fun k_ => True) ho0 (fun k_ hk_ => trivial)) (below_size bl)); replace HB := Aside0.mk (below_step bl hb); (try clear hb); (try clear ho0)) | ((with_reducible refine gate_dst (N := 3) rfl ?_); refine box_event ?hg (N := 3) ?hd (cs := #[.bool false, .slice none 0 0]) (t := 43) ?hr ?_; (case hd => rfl); (case hg => rfl); (case hr => first | (go_simp; done) | (go_simp; rfl)); intro gb403 hg w80 hbox hb; replace HO401 := Aside0.mk (Kd.V_below (Kd.V_elderB (vk HO401.out) gb403 (Nat.le_of_eq hg.symm)) hb); have BK403 := Aside0.mk (hbox); have GE403 := Aside0.mk (ge (w := w) hg); replace HB := Aside0.mk (below_step bl hb); clear hb hbox hg; obtain ⟨hcz81_0, hcz81_1, hfz81_0, hfz81_1⟩ := bz2 BK403.out; obtain ⟨Ao82, co82, eo82⟩ := Kd.V_slice HO401.out; subst eo82) | ((with_reducible refine gate_callee (f := 35) rfl ?_); refine goesL_ (some 26) rfl rfl Try.func35 (by kernel_rfl) rfl #[.string a0] rfl (by (try simp only [List.map_toArray, List.map_cons, List.map_nil]); first | done | rfl | (simp only [List.length_drop, List.length_take]; rfl)) ?_; (with_reducible refine (maskref4_IsDec.calls k a0 false _ A14.out).mono ?_); rintro e w' ⟨rfl, ⟨nd, rfl⟩⟩; refine ⟨_, rfl, ?_⟩) | (go_at_call 23; (with_reducible refine (exact_Sign.calls t398 _ _ t399 t407 _ ?side1 ?side2 A77.out).mono ?_); (case side1 => refine (Kd.V_reads' (e := 97) (base := w.heap.size) (ok := fun k_ => (True ∧ k_ ≠ gb403)) (n := t399.length) (c := co82) ?_).2.2; exact (by (with_reducible repeat (first | apply Kd.V_alloc | apply Kd.V_drewN | apply Kd.V_drew)); exact (Kd.V_mono (Kd.V_far (p := ⟨gb403, 1, none⟩) (Kd.V_far (p := ⟨gb403, 0, none⟩) (Kd.V_mono HO401.out (fun k_ hk => (⟨hk, hk.2⟩ : _ ∧ k_ ≠ gb403))) (fun _ hk => hk.2) (.bool t398)) (fun _ hk => hk.2) (.slice Ao82 t399.length co82)) (fun _ h_ => h_.1)))); (case side2 => exact (Kd.V_reads' HO401.out).2.1); rintro e w83 ⟨rfl, hb⟩; replace HO401 := Aside0.mk (Kd.V_below (by (with_reducible repeat (first | apply Kd.V_alloc | apply Kd.V_drewN | apply Kd.V_drew)); exact (Kd.V_mono (Kd.V_far (p := ⟨gb403, 1, none⟩) (Kd.V_far (p := ⟨gb403, 0, none⟩) (Kd.V_mono HO401.out (fun k_ hk => (⟨hk, hk.2⟩ : _ ∧ k_ ≠ gb403))) (fun _ hk => hk.2) (.bool t398)) (fun _ hk => hk.2) (.slice Ao82 t399.length co82)) (fun _ h_ => h_.1))) hb); replace BK403 := Aside0.mk (blk_below (g := gb403) (o := .cells #[.bool t398, .slice Ao82 t399.length co82] 43 (0, 0)) (by (with_reducible repeat (first | refine blk_drewN ?_ _ | refine blk_drew ?_ | refine blk_alloc ?_ _)); refine blk_put (cs := #[.bool t398, .slice none 0 0]) ?_ 1 _ rfl; (with_reducible repeat (first | refine blk_drewN ?_ _ | refine blk_drew ?_ | refine blk_alloc ?_ _)); refine blk_put (cs := #[.bool false, .slice none 0 0]) ?_ 0 _ rfl; (with_reducible repeat (first | refine blk_drewN ?_ _ | refine blk_drew ?_ | refine blk_alloc ?_ _)); exact BK403.out) hb); replace HB := Aside0.mk (below_step bl hb); (try clear hb)))
   go_ret
   exact ⟨by first | rfl | (simp [errW_none, errW_some] <;> rfl) | (simp [*, errW_none, errW_some] <;> rfl), bl⟩
 subst c15
 have H1 : (if (a0.size : Int) > 400 then (if t402 = 3 then (some true) else (if t402 = 0 then ((exact_Text.f k t398 t399).bind fun t406 => (some (t406.toList == a0.toList))) else (none))) else ((maskref4_DecOf.f k a0).bind fun bt408 => (if t402 = 0 then ((exact_Text.f k t398 t399).bind fun t413 => (if t413.toList = a0.toList then ((exact_Bits.f t398 t399).bind fun t414 => ((maskref4_Dec_BitsOf.f k bt408.1 bt408.2).bind fun t415 => (if t414 = t415 then ((exact_Neg.f t398 t399).bind fun bt416 => ((exact_Text.f k bt416.1 bt416.2).bind fun t420 => ((maskref4_DecInt.f k (-1)).bind fun bt421 => ((maskref4_Dec_Times.f k bt408.1 bt408.2 bt421.1 bt421.2).bind fun bt425 => ((maskref4_Dec_Text.f k bt425.1 bt425.2).bind fun t429 => (if t420.toList = t429.toList then ((exact_Abs.f t398 t399).bind fun bt430 => ((exact_Text.f k bt430.1 bt430.2).bind fun t434 => ((maskref4_Dec_Text.f k false bt408.2).bind fun t435 => (some (t434.toList == t435.toList))))) else (none))))))) else (none)))) else (none))) else (none)))) = some r := by rw [if_pos rfl] at H; exact H
 clear H
 have H := H1
 clear H1
 by_cases c16 : (a0.size : Int) > 400
 · rw [if_pos c16] at H
   have c16b0 : decide (400 < (a0.size : Int)) = true := decide_eq_true c16
   have c16b1 : decide (400 < a0.size) = true := decide_eq_true (by omega)
   clear c16
   by_cases c17 : t402 = 3
   · rw [if_pos c17] at H
     have c17b0 : (t402 == 3) = true := beq_iff_eq.mpr c17
     clear c17
     obtain rfl := Option.some.inj H
     go_enter Try.func6, Try.ntmps6
     go_wp2_with (first | ((with_reducible refine gate_callee (f := 11) rfl ?_); refine goesL_ (some 6) rfl rfl Try.func11 (by kernel_rfl) rfl #[] rfl (by (try simp only [List.map_toArray, List.map_cons, List.map_nil]); first | done | rfl | (simp only [List.length_drop, List.length_take]; rfl)) ?_; (with_reducible refine (masklaw4_exacts.calls  true _ A2.out).mono ?_); rintro e w18 ⟨rfl, hb⟩; refine ⟨_, rfl, ?_⟩; replace HB := Aside0.mk (below_step bl hb); (try clear hb)) | ((with_reducible refine gate_callee (f := 34) rfl ?_); refine goesL_ (some 10) rfl rfl Try.func34 (by kernel_rfl) rfl #[.string a0] rfl (by (try simp only [List.map_toArray, List.map_cons, List.map_nil]); first | done | rfl | (simp only [List.length_drop, List.length_take]; rfl)) ?_; (with_reducible refine (exact_Read.calls k a0 t398 t399 t402 _ A4.out).mono ?_); rintro e w19 ⟨v400, rfl, ho0, hb⟩; refine ⟨_, rfl, ?_⟩; have HO401 := Aside0.mk (Kd.V_lower (Kd.V_mono (ok' := fun k_ => True) ho0 (fun k_ hk_ => trivial)) (below_size bl)); replace HB := Aside0.mk (below_step bl hb); (try clear hb); (try clear ho0)) | ((with_reducible refine gate_dst (N := 3) rfl ?_); refine box_event ?hg (N := 3) ?hd (cs := #[.bool false, .slice none 0 0]) (t := 43) ?hr ?_; (case hd => rfl); (case hg => rfl); (case hr => first | (go_simp; done) | (go_simp; rfl)); intro gb403 hg w20 hbox hb; replace HO401 := Aside0.mk (Kd.V_below (Kd.V_elderB (vk HO401.out) gb403 (Nat.le_of_eq hg.symm)) hb); have BK403 := Aside0.mk (hbox); have GE403 := Aside0.mk (ge (w := w) hg); replace HB := Aside0.mk (below_step bl hb); clear hb hbox hg; obtain ⟨hcz21_0, hcz21_1, hfz21_0, hfz21_1⟩ := bz2 BK403.out; obtain ⟨Ao22, co22, eo22⟩ := Kd.V_slice HO401.out; subst eo22) | ((with_reducible refine gate_callee (f := 35) rfl ?_); refine goesL_ (some 26) rfl rfl Try.func35 (by kernel_rfl) rfl #[.string a0] rfl (by (try simp only [List.map_toArray, List.map_cons, List.map_nil]); first | done | rfl | (simp only [List.length_drop, List.length_take]; rfl)) ?_; (with_reducible refine (maskref4_IsDec.calls k a0 true _ A14.out).mono ?_); rintro e w' ⟨rfl, ⟨nd, rfl⟩⟩; refine ⟨_, rfl, ?_⟩))
     go_ret
     exact ⟨by first | rfl | (simp [errW_none, errW_some] <;> rfl) | (simp [*, errW_none, errW_some] <;> rfl), bl⟩
   rw [if_neg c17] at H
   have c17b0 : (t402 == 3) = false := beq_eq_false_iff_ne.mpr c17
   have c17b1 : (t402 != 3) = true := bne_iff_ne.mpr c17
   by_cases c23 : t402 = 0
   rotate_left
   · rw [if_neg c23] at H
     exact absurd H (by simp)
   rw [if_pos c23] at H
   have c23b0 : (t402 == 0) = true := beq_iff_eq.mpr c23
   clear c23
   replace H := Option.bind_eq_some_iff.mp H
   obtain ⟨t406, A240, H⟩ := H
   replace H : (some (t406.toList == a0.toList)) = some r := H
   have A24 := Aside0.mk A240
   clear A240
   obtain rfl := Option.some.inj H
   go_enter Try.func6, Try.ntmps6
   go_wp2_with (first | ((with_reducible refine gate_callee (f := 11) rfl ?_); refine goesL_ (some 6) rfl rfl Try.func11 (by kernel_rfl) rfl #[] rfl (by (try simp only [List.map_toArray, List.map_cons, List.map_nil]); first | done | rfl | (simp only [List.length_drop, List.length_take]; rfl)) ?_; (with_reducible refine (masklaw4_exacts.calls  true _ A2.out).mono ?_); rintro e w25 ⟨rfl, hb⟩; refine ⟨_, rfl, ?_⟩; replace HB := Aside0.mk (below_step bl hb); (try clear hb)) | ((with_reducible refine gate_callee (f := 34) rfl ?_); refine goesL_ (some 10) rfl rfl Try.func34 (by kernel_rfl) rfl #[.string a0] rfl (by (try simp only [List.map_toArray, List.map_cons, List.map_nil]); first | done | rfl | (simp only [List.length_drop, List.length_take]; rfl)) ?_; (with_reducible refine (exact_Read.calls k a0 t398 t399 t402 _ A4.out).mono ?_); rintro e w26 ⟨v400, rfl, ho0, hb⟩; refine ⟨_, rfl, ?_⟩; have HO401 := Aside0.mk (Kd.V_lower (Kd.V_mono (ok' := fun k_ => True) ho0 (fun k_ hk_ => trivial)) (below_size bl)); replace HB := Aside0.mk (below_step bl hb); (try clear hb); (try clear ho0)) | ((with_reducible refine gate_dst (N := 3) rfl ?_); refine box_event ?hg (N := 3) ?hd (cs := #[.bool false, .slice none 0 0]) (t := 43) ?hr ?_; (case hd => rfl); (case hg => rfl); (case hr => first | (go_simp; done) | (go_simp; rfl)); intro gb403 hg w27 hbox hb; replace HO401 := Aside0.mk (Kd.V_below (Kd.V_elderB (vk HO401.out) gb403 (Nat.le_of_eq hg.symm)) hb); have BK403 := Aside0.mk (hbox); have GE403 := Aside0.mk (ge (w := w) hg); replace HB := Aside0.mk (below_step bl hb); clear hb hbox hg; obtain ⟨hcz28_0, hcz28_1, hfz28_0, hfz28_1⟩ := bz2 BK403.out; obtain ⟨Ao29, co29, eo29⟩ := Kd.V_slice HO401.out; subst eo29) | ((with_reducible refine gate_store (t := 43) (p := 3) rfl ?_); refine store_event (t := 43) (p := 3) (v := ?vo_w30) (w1 := ((w27.setCell ⟨gb403, 0, none⟩ (.bool t398)).setCell ⟨gb403, 1, none⟩ (.slice Ao29 t399.length co29))) ?hg ?ho ?hn ?hr ?_; (case ho => rfl); (case hg => rfl); (case hn => rfl); (case hr => first | (go_simp; done) | (go_simp; rfl)); intro w30 hw; have n0_ : Aside0 (Kd.V (Kd.int .u32) 97 w30 w.heap.size (fun k_ => k_ ≠ gb403) (.slice Ao29 t399.length co29) t399) := ⟨(by rw [hw]; exact (by (with_reducible repeat (first | apply Kd.V_alloc | apply Kd.V_drewN | apply Kd.V_drew)); exact Kd.V_mono (Kd.V_far (p := ⟨gb403, 1, none⟩) (Kd.V_far (p := ⟨gb403, 0, none⟩) (Kd.V_mono HO401.out (fun k_ hk => (⟨hk, hk.2⟩ : _ ∧ k_ ≠ gb403))) (fun _ hk => hk.2) (.bool t398)) (fun _ hk => hk.2) (.slice Ao29 t399.length co29)) (fun _ hk => hk.1.2)))⟩; have n1_ : Aside0 (w30.heap[gb403]? = some (.cells #[.bool t398, .slice Ao29 t399.length co29] 43 (0, 0))) := ⟨(by rw [hw]; exact (by (with_reducible repeat (first | refine blk_drewN ?_ _ | refine blk_drew ?_ | refine blk_alloc ?_ _)); refine blk_put (cs := #[.bool t398, .slice none 0 0]) ?_ 1 _ rfl; (with_reducible repeat (first | refine blk_drewN ?_ _ | refine blk_drew ?_ | refine blk_alloc ?_ _)); refine blk_put (cs := #[.bool false, .slice none 0 0]) ?_ 0 _ rfl; (with_reducible repeat (first | refine blk_drewN ?_ _ | refine blk_drew ?_ | refine blk_alloc ?_ _)); exact BK403.out))⟩; have n2_ : Aside0 (Below w.heap.size w w30) := ⟨(by rw [hw]; exact bl)⟩; clear hw; clear HO401; clear BK403; clear HB; have HO401 := n0_; have BK403 := n1_; have HB := n2_; clear n0_ n1_ n2_) | ((with_reducible refine gate_callee (f := 35) rfl ?_); refine goesL_ (some 26) rfl rfl Try.func35 (by kernel_rfl) rfl #[.string a0] rfl (by (try simp only [List.map_toArray, List.map_cons, List.map_nil]); first | done | rfl | (simp only [List.length_drop, List.length_take]; rfl)) ?_; (with_reducible refine (maskref4_IsDec.calls k a0 true _ A14.out).mono ?_); rintro e w' ⟨rfl, ⟨nd, rfl⟩⟩; refine ⟨_, rfl, ?_⟩; obtain ⟨hcz31_0, hcz31_1, hfz31_0, hfz31_1⟩ := bz2 BK403.out) | (go_at_call 25; (with_reducible refine (exact_Text.calls k t398 (fun k_ => k_ ≠ gb403) _ _ t399 t406 _ ?side1 A24.out).mono ?_); (case side1 => exact HO401.out); rintro e w32 ⟨rfl, hb⟩; replace HO401 := Aside0.mk (vb HO401.out hb); replace BK403 := Aside0.mk (bb BK403.out hb); replace HB := Aside0.mk (below_step bl hb); (try clear hb)))
   go_ret
   exact ⟨by first | rfl | (simp [errW_none, errW_some] <;> rfl) | (simp [*, errW_none, errW_some] <;> rfl), bl⟩
 rw [if_neg c16] at H
 have c16b0 : decide (400 < (a0.size : Int)) = false := decide_eq_false c16
 clear c16
 replace H := Option.bind_eq_some_iff.mp H
 obtain ⟨⟨t408, t409⟩, A330, H⟩ := H
 replace H : (if t402 = 0 then ((exact_Text.f k t398 t399).bind fun t413 => (if t413.toList = a0.toList then ((exact_Bits.f t398 t399).bind fun t414 => ((maskref4_Dec_BitsOf.f k t408 t409).bind fun t415 => (if t414 = t415 then ((exact_Neg.f t398 t399).bind fun bt416 => ((exact_Text.f k bt416.1 bt416.2).bind fun t420 => ((maskref4_DecInt.f k (-1)).bind fun bt421 => ((maskref4_Dec_Times.f k t408 t409 bt421.1 bt421.2).bind fun bt425 => ((maskref4_Dec_Text.f k bt425.1 bt425.2).bind fun t429 => (if t420.toList = t429.toList then ((exact_Abs.f t398 t399).bind fun bt430 => ((exact_Text.f k bt430.1 bt430.2).bind fun t434 => ((maskref4_Dec_Text.f k false t409).bind fun t435 => (some (t434.toList == t435.toList))))) else (none))))))) else (none)))) else (none))) else (none)) = some r := H
 have A33 := Aside0.mk A330
 clear A330
 by_cases c34 : t402 = 0
 rotate_left
 · rw [if_neg c34] at H
   exact absurd H (by simp)
 rw [if_pos c34] at H
 have c34b0 : (t402 == 0) = true := beq_iff_eq.mpr c34
 clear c34
 replace H := Option.bind_eq_some_iff.mp H
 obtain ⟨t413, A350, H⟩ := H
 replace H : (if t413.toList = a0.toList then ((exact_Bits.f t398 t399).bind fun t414 => ((maskref4_Dec_BitsOf.f k t408 t409).bind fun t415 => (if t414 = t415 then ((exact_Neg.f t398 t399).bind fun bt416 => ((exact_Text.f k bt416.1 bt416.2).bind fun t420 => ((maskref4_DecInt.f k (-1)).bind fun bt421 => ((maskref4_Dec_Times.f k t408 t409 bt421.1 bt421.2).bind fun bt425 => ((maskref4_Dec_Text.f k bt425.1 bt425.2).bind fun t429 => (if t420.toList = t429.toList then ((exact_Abs.f t398 t399).bind fun bt430 => ((exact_Text.f k bt430.1 bt430.2).bind fun t434 => ((maskref4_Dec_Text.f k false t409).bind fun t435 => (some (t434.toList == t435.toList))))) else (none))))))) else (none)))) else (none)) = some r := H
 have A35 := Aside0.mk A350
 clear A350
 by_cases c36 : t413.toList = a0.toList
 rotate_left
 · rw [if_neg c36] at H
   exact absurd H (by simp)
 rw [if_pos c36] at H
 have c36b0 : (t413.toList == a0.toList) = true := beq_iff_eq.mpr c36
 clear c36
 replace H := Option.bind_eq_some_iff.mp H
 obtain ⟨t414, A370, H⟩ := H
 replace H : ((maskref4_Dec_BitsOf.f k t408 t409).bind fun t415 => (if t414 = t415 then ((exact_Neg.f t398 t399).bind fun bt416 => ((exact_Text.f k bt416.1 bt416.2).bind fun t420 => ((maskref4_DecInt.f k (-1)).bind fun bt421 => ((maskref4_Dec_Times.f k t408 t409 bt421.1 bt421.2).bind fun bt425 => ((maskref4_Dec_Text.f k bt425.1 bt425.2).bind fun t429 => (if t420.toList = t429.toList then ((exact_Abs.f t398 t399).bind fun bt430 => ((exact_Text.f k bt430.1 bt430.2).bind fun t434 => ((maskref4_Dec_Text.f k false t409).bind fun t435 => (some (t434.toList == t435.toList))))) else (none))))))) else (none))) = some r := H
 have A37 := Aside0.mk A370
 clear A370
 replace H := Option.bind_eq_some_iff.mp H
 obtain ⟨t415, A380, H⟩ := H
 replace H : (if t414 = t415 then ((exact_Neg.f t398 t399).bind fun bt416 => ((exact_Text.f k bt416.1 bt416.2).bind fun t420 => ((maskref4_DecInt.f k (-1)).bind fun bt421 => ((maskref4_Dec_Times.f k t408 t409 bt421.1 bt421.2).bind fun bt425 => ((maskref4_Dec_Text.f k bt425.1 bt425.2).bind fun t429 => (if t420.toList = t429.toList then ((exact_Abs.f t398 t399).bind fun bt430 => ((exact_Text.f k bt430.1 bt430.2).bind fun t434 => ((maskref4_Dec_Text.f k false t409).bind fun t435 => (some (t434.toList == t435.toList))))) else (none))))))) else (none)) = some r := H
 have A38 := Aside0.mk A380
 clear A380
 by_cases c39 : t414 = t415
 rotate_left
 · rw [if_neg c39] at H
   exact absurd H (by simp)
 rw [if_pos c39] at H
 have c39b0 : (t414 == t415) = true := beq_iff_eq.mpr c39
 clear c39
 replace H := Option.bind_eq_some_iff.mp H
 obtain ⟨⟨t416, t417⟩, A400, H⟩ := H
 replace H : ((exact_Text.f k t416 t417).bind fun t420 => ((maskref4_DecInt.f k (-1)).bind fun bt421 => ((maskref4_Dec_Times.f k t408 t409 bt421.1 bt421.2).bind fun bt425 => ((maskref4_Dec_Text.f k bt425.1 bt425.2).bind fun t429 => (if t420.toList = t429.toList then ((exact_Abs.f t398 t399).bind fun bt430 => ((exact_Text.f k bt430.1 bt430.2).bind fun t434 => ((maskref4_Dec_Text.f k false t409).bind fun t435 => (some (t434.toList == t435.toList))))) else (none)))))) = some r := H
 have A40 := Aside0.mk A400
 clear A400
 replace H := Option.bind_eq_some_iff.mp H
 obtain ⟨t420, A410, H⟩ := H
 replace H : ((maskref4_DecInt.f k (-1)).bind fun bt421 => ((maskref4_Dec_Times.f k t408 t409 bt421.1 bt421.2).bind fun bt425 => ((maskref4_Dec_Text.f k bt425.1 bt425.2).bind fun t429 => (if t420.toList = t429.toList then ((exact_Abs.f t398 t399).bind fun bt430 => ((exact_Text.f k bt430.1 bt430.2).bind fun t434 => ((maskref4_Dec_Text.f k false t409).bind fun t435 => (some (t434.toList == t435.toList))))) else (none))))) = some r := H
 have A41 := Aside0.mk A410
 clear A410
 replace H := Option.bind_eq_some_iff.mp H
 obtain ⟨⟨t421, t422⟩, A420, H⟩ := H
 replace H : ((maskref4_Dec_Times.f k t408 t409 t421 t422).bind fun bt425 => ((maskref4_Dec_Text.f k bt425.1 bt425.2).bind fun t429 => (if t420.toList = t429.toList then ((exact_Abs.f t398 t399).bind fun bt430 => ((exact_Text.f k bt430.1 bt430.2).bind fun t434 => ((maskref4_Dec_Text.f k false t409).bind fun t435 => (some (t434.toList == t435.toList))))) else (none)))) = some r := H
 have A42 := Aside0.mk A420
 clear A420
 replace H := Option.bind_eq_some_iff.mp H
 obtain ⟨⟨t425, t426⟩, A430, H⟩ := H
 replace H : ((maskref4_Dec_Text.f k t425 t426).bind fun t429 => (if t420.toList = t429.toList then ((exact_Abs.f t398 t399).bind fun bt430 => ((exact_Text.f k bt430.1 bt430.2).bind fun t434 => ((maskref4_Dec_Text.f k false t409).bind fun t435 => (some (t434.toList == t435.toList))))) else (none))) = some r := H
 have A43 := Aside0.mk A430
 clear A430
 replace H := Option.bind_eq_some_iff.mp H
 obtain ⟨t429, A440, H⟩ := H
 replace H : (if t420.toList = t429.toList then ((exact_Abs.f t398 t399).bind fun bt430 => ((exact_Text.f k bt430.1 bt430.2).bind fun t434 => ((maskref4_Dec_Text.f k false t409).bind fun t435 => (some (t434.toList == t435.toList))))) else (none)) = some r := H
 have A44 := Aside0.mk A440
 clear A440
 by_cases c45 : t420.toList = t429.toList
 rotate_left
 · rw [if_neg c45] at H
   exact absurd H (by simp)
 rw [if_pos c45] at H
 have c45b0 : (t420.toList == t429.toList) = true := beq_iff_eq.mpr c45
 clear c45
 replace H := Option.bind_eq_some_iff.mp H
 obtain ⟨⟨t430, t431⟩, A460, H⟩ := H
 replace H : ((exact_Text.f k t430 t431).bind fun t434 => ((maskref4_Dec_Text.f k false t409).bind fun t435 => (some (t434.toList == t435.toList)))) = some r := H
 have A46 := Aside0.mk A460
 clear A460
 replace H := Option.bind_eq_some_iff.mp H
 obtain ⟨t434, A470, H⟩ := H
 replace H : ((maskref4_Dec_Text.f k false t409).bind fun t435 => (some (t434.toList == t435.toList))) = some r := H
 have A47 := Aside0.mk A470
 clear A470
 replace H := Option.bind_eq_some_iff.mp H
 obtain ⟨t435, A480, H⟩ := H
 replace H : (some (t434.toList == t435.toList)) = some r := H
 have A48 := Aside0.mk A480
 clear A480
 obtain rfl := Option.some.inj H
 go_enter Try.func6, Try.ntmps6
 try go_wp2_with (first | ((with_reducible refine gate_callee (f := 11) rfl ?_); refine goesL_ (some 6) rfl rfl Try.func11 (by kernel_rfl) rfl #[] rfl (by (try simp only [List.map_toArray, List.map_cons, List.map_nil]); first | done | rfl | (simp only [List.length_drop, List.length_take]; rfl)) ?_; (with_reducible refine (masklaw4_exacts.calls  true _ A2.out).mono ?_); rintro e w49 ⟨rfl, hb⟩; refine ⟨_, rfl, ?_⟩; replace HB := Aside0.mk (below_step bl hb); (try clear hb)) | ((with_reducible refine gate_callee (f := 34) rfl ?_); refine goesL_ (some 10) rfl rfl Try.func34 (by kernel_rfl) rfl #[.string a0] rfl (by (try simp only [List.map_toArray, List.map_cons, List.map_nil]); first | done | rfl | (simp only [List.length_drop, List.length_take]; rfl)) ?_; (with_reducible refine (exact_Read.calls k a0 t398 t399 t402 _ A4.out).mono ?_); rintro e w50 ⟨v400, rfl, ho0, hb⟩; refine ⟨_, rfl, ?_⟩; have HO401 := Aside0.mk (Kd.V_lower (Kd.V_mono (ok' := fun k_ => True) ho0 (fun k_ hk_ => trivial)) (below_size bl)); replace HB := Aside0.mk (below_step bl hb); (try clear hb); (try clear ho0)) | ((with_reducible refine gate_dst (N := 3) rfl ?_); refine box_event ?hg (N := 3) ?hd (cs := #[.bool false, .slice none 0 0]) (t := 43) ?hr ?_; (case hd => rfl); (case hg => rfl); (case hr => first | (go_simp; done) | (go_simp; rfl)); intro gb403 hg w51 hbox hb; replace HO401 := Aside0.mk (Kd.V_below (Kd.V_elderB (vk HO401.out) gb403 (Nat.le_of_eq hg.symm)) hb); have BK403 := Aside0.mk (hbox); have GE403 := Aside0.mk (ge (w := w) hg); replace HB := Aside0.mk (below_step bl hb); clear hb hbox hg; obtain ⟨hcz52_0, hcz52_1, hfz52_0, hfz52_1⟩ := bz2 BK403.out; obtain ⟨Ao53, co53, eo53⟩ := Kd.V_slice HO401.out; subst eo53) | ((with_reducible refine gate_callee (f := 35) rfl ?_); refine goesL_ (some 26) rfl rfl Try.func35 (by kernel_rfl) rfl #[.string a0] rfl (by (try simp only [List.map_toArray, List.map_cons, List.map_nil]); first | done | rfl | (simp only [List.length_drop, List.length_take]; rfl)) ?_; (with_reducible refine (maskref4_IsDec.calls k a0 true _ A14.out).mono ?_); rintro e w' ⟨rfl, ⟨nd, rfl⟩⟩; refine ⟨_, rfl, ?_⟩) | ((with_reducible refine gate_callee (f := 36) rfl ?_); refine goesL_ (some 52) rfl rfl Try.func36 (by kernel_rfl) rfl #[.string a0] rfl (by (try simp only [List.map_toArray, List.map_cons, List.map_nil]); first | done | rfl | (simp only [List.length_drop, List.length_take]; rfl)) ?_; (with_reducible refine (maskref4_DecOf.calls k a0 t408 t409 _ A33.out).mono ?_); rintro e w54 ⟨v410, rfl, ho0, hb⟩; refine ⟨_, rfl, ?_⟩; replace HO401 := Aside0.mk (Kd.V_below (by (with_reducible repeat (first | apply Kd.V_alloc | apply Kd.V_drewN | apply Kd.V_drew)); exact (Kd.V_mono (Kd.V_far (p := ⟨gb403, 1, none⟩) (Kd.V_far (p := ⟨gb403, 0, none⟩) (Kd.V_mono HO401.out (fun k_ hk => (⟨hk, hk.2⟩ : _ ∧ k_ ≠ gb403))) (fun _ hk => hk.2) (.bool t398)) (fun _ hk => hk.2) (.slice Ao53 t399.length co53)) (fun _ h_ => h_.1))) hb); have HO411 := Aside0.mk (Kd.V_lower (Kd.V_mono (ok' := fun k_ => k_ ≠ gb403) ho0 (fun k_ hk_ => (Kd.freshB (g := gb403) (o := .cells #[.bool t398, .slice Ao53 t399.length co53] 43 (0, 0)) (by (with_reducible repeat (first | refine blk_drewN ?_ _ | refine blk_drew ?_ | refine blk_alloc ?_ _)); refine blk_put (cs := #[.bool t398, .slice none 0 0]) ?_ 1 _ rfl; (with_reducible repeat (first | refine blk_drewN ?_ _ | refine blk_drew ?_ | refine blk_alloc ?_ _)); refine blk_put (cs := #[.bool false, .slice none 0 0]) ?_ 0 _ rfl; (with_reducible repeat (first | refine blk_drewN ?_ _ | refine blk_drew ?_ | refine blk_alloc ?_ _)); exact BK403.out) k_ hk_))) (below_size bl)); replace BK403 := Aside0.mk (blk_below (g := gb403) (o := .cells #[.bool t398, .slice Ao53 t399.length co53] 43 (0, 0)) (by (with_reducible repeat (first | refine blk_drewN ?_ _ | refine blk_drew ?_ | refine blk_alloc ?_ _)); refine blk_put (cs := #[.bool t398, .slice none 0 0]) ?_ 1 _ rfl; (with_reducible repeat (first | refine blk_drewN ?_ _ | refine blk_drew ?_ | refine blk_alloc ?_ _)); refine blk_put (cs := #[.bool false, .slice none 0 0]) ?_ 0 _ rfl; (with_reducible repeat (first | refine blk_drewN ?_ _ | refine blk_drew ?_ | refine blk_alloc ?_ _)); exact BK403.out) hb); replace HB := Aside0.mk (below_step bl hb); (try clear hb); (try clear ho0)) | ((with_reducible refine gate_dst (N := 5) rfl ?_); refine box_event ?hg (N := 5) ?hd (cs := #[.bool false, .slice none 0 0]) (t := 36) ?hr ?_; (case hd => rfl); (case hg => rfl); (case hr => first | (go_simp; done) | (go_simp; rfl)); intro gb412 hg w55 hbox hb; replace HO401 := Aside0.mk (Kd.V_below (Kd.V_elderB (vk HO401.out) gb412 (Nat.le_of_eq hg.symm)) hb); replace HO411 := Aside0.mk (Kd.V_below (Kd.V_elderB (vk HO411.out) gb412 (Nat.le_of_eq hg.symm)) hb); have BK412 := Aside0.mk (hbox); have GE412 := Aside0.mk (ge (w := w) hg); replace HB := Aside0.mk (below_step bl hb); have NB403_412 := Aside0.mk (nl hg (bk BK403.out)); have NB412_403 := Aside0.mk (ng hg (bk BK403.out)); replace BK403 := Aside0.mk (bb BK403.out hb); clear hb hbox hg; obtain ⟨hcz57_0, hcz57_1, hfz57_0, hfz57_1⟩ := bz2 BK412.out; obtain ⟨Ao58, co58, eo58⟩ := Kd.V_slice HO411.out; subst eo58))
 have n0_ : Aside0 (Kd.V (Kd.int .u32) 97 ((w55.setCell ⟨gb412, 0, none⟩ (.bool t408)).setCell ⟨gb412, 1, none⟩ (.slice Ao58 t409.length co58)) w.heap.size (fun k_ => k_ ≠ gb403 ∧ k_ ≠ gb412) (.slice Ao53 t399.length co53) t399) := ⟨by (with_reducible repeat (first | apply Kd.V_alloc | apply Kd.V_drewN | apply Kd.V_drew)); exact Kd.V_mono (Kd.V_far (p := ⟨gb412, 1, none⟩) (Kd.V_far (p := ⟨gb412, 0, none⟩) (Kd.V_mono HO401.out (fun k_ hk => (⟨hk, hk.2⟩ : _ ∧ k_ ≠ gb412))) (fun _ hk => hk.2) (.bool t408)) (fun _ hk => hk.2) (.slice Ao58 t409.length co58)) (fun _ hk => ⟨hk.1.1.2, hk.1.2⟩)⟩
 have n1_ : Aside0 (Kd.V (Kd.int .i64) 3 ((w55.setCell ⟨gb412, 0, none⟩ (.bool t408)).setCell ⟨gb412, 1, none⟩ (.slice Ao58 t409.length co58)) w.heap.size (fun k_ => k_ ≠ gb403 ∧ k_ ≠ gb412) (.slice Ao58 t409.length co58) t409) := ⟨by (with_reducible repeat (first | apply Kd.V_alloc | apply Kd.V_drewN | apply Kd.V_drew)); exact Kd.V_mono (Kd.V_far (p := ⟨gb412, 1, none⟩) (Kd.V_far (p := ⟨gb412, 0, none⟩) (Kd.V_mono HO411.out (fun k_ hk => (⟨hk, hk.2⟩ : _ ∧ k_ ≠ gb412))) (fun _ hk => hk.2) (.bool t408)) (fun _ hk => hk.2) (.slice Ao58 t409.length co58)) (fun _ hk => ⟨hk.1.1, hk.1.2⟩)⟩
 have n2_ : Aside0 (((w55.setCell ⟨gb412, 0, none⟩ (.bool t408)).setCell ⟨gb412, 1, none⟩ (.slice Ao58 t409.length co58)).heap[gb403]? = some (.cells #[.bool t398, .slice Ao53 t399.length co53] 43 (0, 0))) := ⟨bf BK403.out⟩
 have n3_ : Aside0 (((w55.setCell ⟨gb412, 0, none⟩ (.bool t408)).setCell ⟨gb412, 1, none⟩ (.slice Ao58 t409.length co58)).heap[gb412]? = some (.cells #[.bool t408, .slice Ao58 t409.length co58] 36 (0, 0))) := ⟨by (with_reducible repeat (first | refine blk_drewN ?_ _ | refine blk_drew ?_ | refine blk_alloc ?_ _)); refine blk_put (cs := #[.bool t408, .slice none 0 0]) ?_ 1 _ rfl; (with_reducible repeat (first | refine blk_drewN ?_ _ | refine blk_drew ?_ | refine blk_alloc ?_ _)); refine blk_put (cs := #[.bool false, .slice none 0 0]) ?_ 0 _ rfl; (with_reducible repeat (first | refine blk_drewN ?_ _ | refine blk_drew ?_ | refine blk_alloc ?_ _)); exact BK412.out⟩
 have n4_ : Aside0 (Below w.heap.size w ((w55.setCell ⟨gb412, 0, none⟩ (.bool t408)).setCell ⟨gb412, 1, none⟩ (.slice Ao58 t409.length co58))) := ⟨bl⟩
 (try clear HO401)
 (try clear HO411)
 (try clear BK403)
 (try clear BK412)
 (try clear HB)
 generalize ((w55.setCell ⟨gb412, 0, none⟩ (.bool t408)).setCell ⟨gb412, 1, none⟩ (.slice Ao58 t409.length co58)) = w59 at n0_ n1_ n2_ n3_ n4_ ⊢
 have HO401 := n0_
 have HO411 := n1_
 have BK403 := n2_
 have BK412 := n3_
 have HB := n4_
 clear n0_ n1_ n2_ n3_ n4_
 replace HO401 := Aside0.mk (Kd.V_drew HO401.out); replace HO411 := Aside0.mk (Kd.V_drew HO411.out); replace BK403 := Aside0.mk (blk_drew BK403.out); replace BK412 := Aside0.mk (blk_drew BK412.out); replace HB := Aside0.mk (below_drew1 HB.out)
 refine start_ (n := 36) (S := fun w' => w'.cell? ⟨gb403, 0, none⟩ = some (.bool t398) ∧ w'.cell? ⟨gb403, 1, none⟩ = some (.slice Ao53 t399.length co53) ∧ w'.cell? ⟨gb412, 0, none⟩ = some (.bool t408) ∧ w'.cell? ⟨gb412, 1, none⟩ = some (.slice Ao58 t409.length co58)) (ds := []) (zb 0 36) (by kernel_rfl) rfl rfl ⟨(blk_cell BK403.out 0).trans rfl, (blk_cell BK403.out 1).trans rfl, (blk_cell BK412.out 0).trans rfl, (blk_cell BK412.out 1).trans rfl⟩ (fun hHeld => ?_); refine with_tabW masklaw4_ExactReads.tab11 masklaw4_ExactReads.bits11 (fun HT_ HW_ => ?_)
 generalize w59.drew = w60 at HO401 HO411 BK403 BK412 HB hHeld ⊢
 refine pure_ (i := 0) (N := some 53) (v := ?_) (a' := ?_) (zb 1 35) rfl rfl (any_of HT_.out (by kernel_rfl)) (fun _ _ _ h => h) (Or.inl ⟨by rfl, ?_⟩) ?_ ?_
 rotate_left; focus (intro w'; go_simp; with_reducible rfl)
 rotate_left; focus (simp only [Act.put, z1, z2, z3, i64_w, i32_w]; rfl)
 refine pure_ (i := 1) (N := some 54) (v := ?_) (a' := ?_) (zb 2 34) rfl rfl (any_of HT_.out (by kernel_rfl)) (fun _ _ _ h => h) (Or.inl ⟨by rfl, ?_⟩) ?_ ?_
 rotate_left; focus (intro w'; go_simp; with_reducible rfl)
 rotate_left; focus (simp only [Act.put, z1, z2, z3, i64_w, i32_w]; rfl)
 refine pure_ (i := 2) (N := some 55) (v := ?_) (a' := ?_) (zb 3 33) rfl rfl (any_of HT_.out (by kernel_rfl)) (fun _ _ _ h => h) (Or.inl ⟨by rfl, ?_⟩) ?_ ?_
 rotate_left; focus (intro w'; go_simp; with_reducible rfl)
 rotate_left; focus (simp only [Act.put, z1, z2, z3, i64_w, i32_w]; rfl)
 refine pure_ (i := 5) (N := some 58) (v := ?_) (a' := ?_) #[true,true,true,false,false,true,false,false,false,false,false,false,false,false,false,false,false,false,false,false,false,false,false,false,false,false,false,false,false,false,false,false,false,false,false,false] rfl rfl (any_of HT_.out (by kernel_rfl)) (fun _ _ _ h => h) (Or.inl ⟨by rfl, ?_⟩) ?_ ?_
 rotate_left; focus (intro w'; go_simp; with_reducible rfl)
 rotate_left; focus (simp only [Act.put, z1, z2, z3, i64_w, i32_w]; rfl)
 refine take_ (i := 3) (N := some 56) (v := ?_) (a' := ?_) #[true,true,true,true,false,true,false,false,false,false,false,false,false,false,false,false,false,false,false,false,false,false,false,false,false,false,false,false,false,false,false,false,false,false,false,false] rfl rfl (take_ofW HT_.out HW_.out (by kernel_rfl)) (fun _ _ _ h => h) (Or.inl ⟨by rfl, ?_⟩) hHeld ?_ ?_
 rotate_left
 · rintro w' ⟨s0, s1, s2, s3⟩
   go_simp
   with_reducible rfl
 rotate_left; focus (simp only [Act.put, z1, z2, z3, i64_w, i32_w]; rfl)
 refine one_ (i := 4) (N := some 57) (zb 6 30) rfl rfl (one_of HT_.out (by kernel_rfl)) (by decide) (fun K hK => ?_)
 refine goes_ Try.func25 (by kernel_rfl) rfl #[.agg #[.bool t398, .slice Ao53 t399.length co53]] (by rfl) rfl rfl (by (try simp only [List.map_toArray, List.map_cons, List.map_nil]); first | done | rfl | (simp only [List.length_drop, List.length_take]; rfl)) ?_
 with_reducible refine (exact_Text.calls k t398 (fun k_ => (k_ ≠ gb403 ∧ k_ ≠ gb412)) _ _ t399 t413 _ ?side1 A35.out).mono ?_
 (case side1 => exact HO401.out)
 rintro e w61 ⟨rfl, hb⟩
 refine ⟨_, rfl, ?_⟩
 replace HO401 := Aside0.mk (vb HO401.out hb); replace HO411 := Aside0.mk (vb HO411.out hb); replace BK403 := Aside0.mk (bb BK403.out hb); replace BK412 := Aside0.mk (bb BK412.out hb); replace HB := Aside0.mk (below_step bl hb)
 (try clear hb)
 (try clear hb2)
 (try clear hk)
 (try clear hi)
 refine hK.out _ _ ⟨(blk_cell BK403.out 0).trans rfl, (blk_cell BK403.out 1).trans rfl, (blk_cell BK412.out 0).trans rfl, (blk_cell BK412.out 1).trans rfl⟩ (fun hHeld => ?_)
 clear hK K
 refine norm_ (a' := ?_) ?_ ?_
 rotate_left; focus (show Act.put _ (some 57) _ = _; simp only [Act.put, z1, z2, z3, i64_w, i32_w]; rfl)
 refine pure_ (i := 6) (N := some 59) (v := ?_) (a' := ?_) (zb 7 29) rfl rfl (any_of HT_.out (by kernel_rfl)) (fun _ _ _ h => h) (Or.inl ⟨by rfl, ?_⟩) ?_ ?_
 rotate_left; focus (intro w'; go_simp; with_reducible rfl)
 rotate_left; focus (simp only [Act.put, z1, z2, z3, i64_w, i32_w]; rfl)
 refine pure_ (i := 7) (N := some 60) (v := ?_) (a' := ?_) (zb 8 28) rfl rfl (any_of HT_.out (by kernel_rfl)) (fun _ _ _ h => h) (Or.inl ⟨by rfl, ?_⟩) ?_ ?_
 rotate_left; focus (intro w'; go_simp; with_reducible rfl)
 rotate_left; focus (simp only [Act.put, z1, z2, z3, i64_w, i32_w]; rfl)
 refine pure_ (i := 8) (N := some 61) (v := ?_) (a' := ?_) (zb 9 27) rfl rfl (any_of HT_.out (by kernel_rfl)) (fun _ _ _ h => h) (Or.inl ⟨by rfl, ?_⟩) ?_ ?_
 rotate_left; focus (intro w'; go_simp; with_reducible rfl)
 rotate_left; focus (simp only [Act.put, z1, z2, z3, i64_w, i32_w]; rfl)
 refine take_ (i := 9) (N := some 62) (v := ?_) (a' := ?_) (zb 10 26) rfl rfl (take_ofW HT_.out HW_.out (by kernel_rfl)) (fun _ _ _ h => h) (Or.inl ⟨by rfl, ?_⟩) hHeld ?_ ?_
 rotate_left
 · rintro w' ⟨s0, s1, s2, s3⟩
   go_simp
   with_reducible rfl
 rotate_left; focus (simp only [Act.put, z1, z2, z3, i64_w, i32_w]; rfl)
 refine take_ (i := 11) (N := some 64) (v := ?_) (a' := ?_) #[true,true,true,true,true,true,true,true,true,true,false,true,false,false,false,false,false,false,false,false,false,false,false,false,false,false,false,false,false,false,false,false,false,false,false,false] rfl rfl (take_ofW HT_.out HW_.out (by kernel_rfl)) (fun _ _ _ h => h) (Or.inl ⟨by rfl, ?_⟩) hHeld ?_ ?_
 rotate_left
 · rintro w' ⟨s0, s1, s2, s3⟩
   go_simp
   with_reducible rfl
 rotate_left; focus (simp only [Act.put, z1, z2, z3, i64_w, i32_w]; rfl)
 refine one_ (i := 10) (N := some 63) (zb 12 24) rfl rfl (one_of HT_.out (by kernel_rfl)) (by decide) (fun K hK => ?_)
 refine goes_ Try.func32 (by kernel_rfl) rfl #[.agg #[.bool t398, .slice Ao53 t399.length co53]] (by rfl) rfl rfl (by (try simp only [List.map_toArray, List.map_cons, List.map_nil]); first | done | rfl | (simp only [List.length_drop, List.length_take]; rfl)) ?_
 with_reducible refine (exact_Bits.calls t398 _ _ t399 t414 _ ?side1 ?side2 A37.out).mono ?_
 (case side1 => exact kc ((Kd.V_reads' HO401.out).2.2))
 (case side2 => exact (Kd.V_reads' HO401.out).2.1)
 rintro e w62 ⟨rfl, hb⟩
 refine ⟨_, rfl, ?_⟩
 replace HO401 := Aside0.mk (vb HO401.out hb); replace HO411 := Aside0.mk (vb HO411.out hb); replace BK403 := Aside0.mk (bb BK403.out hb); replace BK412 := Aside0.mk (bb BK412.out hb); replace HB := Aside0.mk (below_step bl hb)
 (try clear hb)
 (try clear hb2)
 (try clear hk)
 (try clear hi)
 refine hK.out _ _ ⟨(blk_cell BK403.out 0).trans rfl, (blk_cell BK403.out 1).trans rfl, (blk_cell BK412.out 0).trans rfl, (blk_cell BK412.out 1).trans rfl⟩ (fun hHeld => ?_)
 clear hK K
 refine norm_ (a' := ?_) ?_ ?_
 rotate_left; focus (show Act.put _ (some 63) _ = _; simp only [Act.put, z1, z2, z3, i64_w, i32_w]; rfl)
 refine one_ (i := 12) (N := some 65) (zb 13 23) rfl rfl (one_of HT_.out (by kernel_rfl)) (by decide) (fun K hK => ?_)
 refine goes_ Try.func33 (by kernel_rfl) rfl #[.agg #[.bool t408, .slice Ao58 t409.length co58]] (by rfl) rfl rfl (by (try simp only [List.map_toArray, List.map_cons, List.map_nil]); first | done | rfl | (simp only [List.length_drop, List.length_take]; rfl)) ?_
 with_reducible refine (maskref4_Dec_BitsOf.calls k t408 _ _ t409 t415 _ ?side1 ?side2 A38.out).mono ?_
 (case side1 => exact kc ((Kd.V_reads' HO411.out).2.2))
 (case side2 => exact (Kd.V_reads' HO411.out).2.1)
 rintro e w63 ⟨rfl, hb⟩
 refine ⟨_, rfl, ?_⟩
 replace HO401 := Aside0.mk (vb HO401.out hb); replace HO411 := Aside0.mk (vb HO411.out hb); replace BK403 := Aside0.mk (bb BK403.out hb); replace BK412 := Aside0.mk (bb BK412.out hb); replace HB := Aside0.mk (below_step bl hb)
 (try clear hb)
 (try clear hb2)
 (try clear hk)
 (try clear hi)
 refine hK.out _ _ ⟨(blk_cell BK403.out 0).trans rfl, (blk_cell BK403.out 1).trans rfl, (blk_cell BK412.out 0).trans rfl, (blk_cell BK412.out 1).trans rfl⟩ (fun hHeld => ?_)
 clear hK K
 refine norm_ (a' := ?_) ?_ ?_
 rotate_left; focus (show Act.put _ (some 65) _ = _; simp only [Act.put, z1, z2, z3, i64_w, i32_w]; rfl)
 refine pure_ (i := 13) (N := some 66) (v := ?_) (a' := ?_) (zb 14 22) rfl rfl (any_of HT_.out (by kernel_rfl)) (fun _ _ _ h => h) (Or.inl ⟨by rfl, ?_⟩) ?_ ?_
 rotate_left; focus (intro w'; go_simp; with_reducible rfl)
 rotate_left; focus (simp only [Act.put, z1, z2, z3, i64_w, i32_w]; rfl)
 refine pure_ (i := 14) (N := some 67) (v := ?_) (a' := ?_) (zb 15 21) rfl rfl (any_of HT_.out (by kernel_rfl)) (fun _ _ _ h => h) (Or.inl ⟨by rfl, ?_⟩) ?_ ?_
 rotate_left; focus (intro w'; go_simp; with_reducible rfl)
 rotate_left; focus (simp only [Act.put, z1, z2, z3, i64_w, i32_w]; rfl)
 refine pure_ (i := 15) (N := some 68) (v := ?_) (a' := ?_) (zb 16 20) rfl rfl (any_of HT_.out (by kernel_rfl)) (fun _ _ _ h => h) (Or.inl ⟨by rfl, ?_⟩) ?_ ?_
 rotate_left; focus (intro w'; go_simp; with_reducible rfl)
 rotate_left; focus (simp only [Act.put, z1, z2, z3, i64_w, i32_w]; rfl)
 refine take_ (i := 16) (N := some 69) (v := ?_) (a' := ?_) (zb 17 19) rfl rfl (take_ofW HT_.out HW_.out (by kernel_rfl)) (fun _ _ _ h => h) (Or.inl ⟨by rfl, ?_⟩) hHeld ?_ ?_
 rotate_left
 · rintro w' ⟨s0, s1, s2, s3⟩
   go_simp
   with_reducible rfl
 rotate_left; focus (simp only [Act.put, z1, z2, z3, i64_w, i32_w]; rfl)
 refine take_ (i := 19) (N := some 72) (v := ?_) (a' := ?_) #[true,true,true,true,true,true,true,true,true,true,true,true,true,true,true,true,true,false,false,true,false,false,false,false,false,false,false,false,false,false,false,false,false,false,false,false] rfl rfl (take_ofW HT_.out HW_.out (by kernel_rfl)) (fun _ _ _ h => h) (Or.inl ⟨by rfl, ?_⟩) hHeld ?_ ?_
 rotate_left
 · rintro w' ⟨s0, s1, s2, s3⟩
   go_simp
   with_reducible rfl
 rotate_left; focus (simp only [Act.put, z1, z2, z3, i64_w, i32_w]; rfl)
 refine one_ (i := 17) (N := some 70) #[true,true,true,true,true,true,true,true,true,true,true,true,true,true,true,true,true,true,false,true,false,false,false,false,false,false,false,false,false,false,false,false,false,false,false,false] rfl rfl (one_of HT_.out (by kernel_rfl)) (by decide) (fun K hK => ?_)
 refine goes_ Try.func37 (by kernel_rfl) rfl #[.agg #[.bool t398, .slice Ao53 t399.length co53]] (by rfl) rfl rfl (by (try simp only [List.map_toArray, List.map_cons, List.map_nil]); first | done | rfl | (simp only [List.length_drop, List.length_take]; rfl)) ?_
 with_reducible refine (exact_Neg.calls t398 (fun k_ => (k_ ≠ gb403 ∧ k_ ≠ gb412)) _ _ t399 t416 t417 _ ?side1 A40.out).mono ?_
 (case side1 => exact HO401.out)
 rintro e w64 ⟨v418, rfl, ho0, hb⟩
 refine ⟨_, rfl, ?_⟩
 replace HO401 := Aside0.mk (vb HO401.out hb); replace HO411 := Aside0.mk (vb HO411.out hb); have HO419 := Aside0.mk (Kd.V_lower (Kd.V_mono (ok' := fun k_ => k_ ≠ gb403 ∧ k_ ≠ gb412) ho0 (fun k_ hk_ => ⟨Or.elim hk_ (fun hs_ => hs_.1) (fun hn_ => (Kd.freshB (g := gb403) (o := .cells #[.bool t398, .slice Ao53 t399.length co53] 43 (0, 0)) (bk BK403.out) k_ hn_)), Or.elim hk_ (fun hs_ => hs_.2) (fun hn_ => (Kd.freshB (g := gb412) (o := .cells #[.bool t408, .slice Ao58 t409.length co58] 36 (0, 0)) (bk BK412.out) k_ hn_))⟩)) (below_size bl)); replace BK403 := Aside0.mk (bb BK403.out hb); replace BK412 := Aside0.mk (bb BK412.out hb); replace HB := Aside0.mk (below_step bl hb)
 (try clear hb)
 (try clear hb2)
 (try clear hk)
 (try clear hi)
 (try clear ho0)
 obtain ⟨Ao65, co65, eo65⟩ := Kd.V_slice HO419.out
 (first | subst eo65 | (injection eo65 with f1_ f2_ f3_; have f4_ := f1_.symm; have f5_ := f3_.symm; clear f1_ f2_ f3_; subst f4_; subst f5_))
 refine hK.out _ _ ⟨(blk_cell BK403.out 0).trans rfl, (blk_cell BK403.out 1).trans rfl, (blk_cell BK412.out 0).trans rfl, (blk_cell BK412.out 1).trans rfl⟩ (fun hHeld => ?_)
 clear hK K
 refine norm_ (a' := ?_) ?_ ?_
 rotate_left; focus (show Act.put _ (some 70) _ = _; simp only [Act.put, z1, z2, z3, i64_w, i32_w]; rfl)
 refine one_ (i := 18) (N := some 71) (zb 20 16) rfl rfl (one_of HT_.out (by kernel_rfl)) (by decide) (fun K hK => ?_)
 refine goes_ Try.func25 (by kernel_rfl) rfl #[.agg #[.bool t416, .slice Ao65 t417.length co65]] (by rfl) rfl rfl (by (try simp only [List.map_toArray, List.map_cons, List.map_nil]); first | done | rfl | (simp only [List.length_drop, List.length_take]; rfl)) ?_
 with_reducible refine (exact_Text.calls k t416 (fun k_ => (k_ ≠ gb403 ∧ k_ ≠ gb412)) _ _ t417 t420 _ ?side1 A41.out).mono ?_
 (case side1 => exact HO419.out)
 rintro e w66 ⟨rfl, hb⟩
 refine ⟨_, rfl, ?_⟩
 replace HO401 := Aside0.mk (vb HO401.out hb); replace HO411 := Aside0.mk (vb HO411.out hb); replace HO419 := Aside0.mk (vb HO419.out hb); replace BK403 := Aside0.mk (bb BK403.out hb); replace BK412 := Aside0.mk (bb BK412.out hb); replace HB := Aside0.mk (below_step bl hb)
 (try clear hb)
 (try clear hb2)
 (try clear hk)
 (try clear hi)
 refine hK.out _ _ ⟨(blk_cell BK403.out 0).trans rfl, (blk_cell BK403.out 1).trans rfl, (blk_cell BK412.out 0).trans rfl, (blk_cell BK412.out 1).trans rfl⟩ (fun hHeld => ?_)
 clear hK K
 refine norm_ (a' := ?_) ?_ ?_
 rotate_left; focus (show Act.put _ (some 71) _ = _; simp only [Act.put, z1, z2, z3, i64_w, i32_w]; rfl)
 refine one_ (i := 20) (N := some 73) (zb 21 15) rfl rfl (one_of HT_.out (by kernel_rfl)) (by decide) (fun K hK => ?_)
 refine goes_ Try.func18 (by kernel_rfl) rfl #[.int .i64 (-1)] (by rfl) rfl rfl (by (try simp only [List.map_toArray, List.map_cons, List.map_nil]); first | done | rfl | (simp only [List.length_drop, List.length_take]; rfl)) ?_
 with_reducible refine (maskref4_DecInt.calls k (-1) t421 t422 _ A42.out).mono ?_
 rintro e w67 ⟨v423, rfl, ho0, hb⟩
 refine ⟨_, rfl, ?_⟩
 replace HO401 := Aside0.mk (vb HO401.out hb); replace HO411 := Aside0.mk (vb HO411.out hb); replace HO419 := Aside0.mk (vb HO419.out hb); have HO424 := Aside0.mk (Kd.V_lower (Kd.V_mono (ok' := fun k_ => k_ ≠ gb403 ∧ k_ ≠ gb412) ho0 (fun k_ hk_ => ⟨(Kd.freshB (g := gb403) (o := .cells #[.bool t398, .slice Ao53 t399.length co53] 43 (0, 0)) (bk BK403.out) k_ hk_), (Kd.freshB (g := gb412) (o := .cells #[.bool t408, .slice Ao58 t409.length co58] 36 (0, 0)) (bk BK412.out) k_ hk_)⟩)) (below_size bl)); replace BK403 := Aside0.mk (bb BK403.out hb); replace BK412 := Aside0.mk (bb BK412.out hb); replace HB := Aside0.mk (below_step bl hb)
 (try clear hb)
 (try clear hb2)
 (try clear hk)
 (try clear hi)
 (try clear ho0)
 obtain ⟨Ao68, co68, eo68⟩ := Kd.V_slice HO424.out
 (first | subst eo68 | (injection eo68 with f1_ f2_ f3_; have f4_ := f1_.symm; have f5_ := f3_.symm; clear f1_ f2_ f3_; subst f4_; subst f5_))
 refine hK.out _ _ ⟨(blk_cell BK403.out 0).trans rfl, (blk_cell BK403.out 1).trans rfl, (blk_cell BK412.out 0).trans rfl, (blk_cell BK412.out 1).trans rfl⟩ (fun hHeld => ?_)
 clear hK K
 refine norm_ (a' := ?_) ?_ ?_
 rotate_left; focus (show Act.put _ (some 73) _ = _; simp only [Act.put, z1, z2, z3, i64_w, i32_w]; rfl)
 refine one_ (i := 21) (N := some 74) (zb 22 14) rfl rfl (one_of HT_.out (by kernel_rfl)) (by decide) (fun K hK => ?_)
 refine goes_ Try.func38 (by kernel_rfl) rfl #[.agg #[.bool t408, .slice Ao58 t409.length co58], .agg #[.bool t421, .slice Ao68 t422.length co68]] (by rfl) rfl rfl (by (try simp only [List.map_toArray, List.map_cons, List.map_nil]); first | done | rfl | (simp only [List.length_drop, List.length_take]; rfl)) ?_
 with_reducible refine (maskref4_Dec_Times.calls k t408 _ _ t409 t421 _ _ t422 t425 t426 _ ?side1 ?side2 ?side3 ?side4 A43.out).mono ?_
 (case side1 => exact kc ((Kd.V_reads' HO411.out).2.2))
 (case side2 => exact (Kd.V_reads' HO411.out).2.1)
 (case side3 => exact kc ((Kd.V_reads' HO424.out).2.2))
 (case side4 => exact (Kd.V_reads' HO424.out).2.1)
 rintro e w69 ⟨v427, rfl, ho0, hb⟩
 refine ⟨_, rfl, ?_⟩
 replace HO401 := Aside0.mk (vb HO401.out hb); replace HO411 := Aside0.mk (vb HO411.out hb); replace HO419 := Aside0.mk (vb HO419.out hb); replace HO424 := Aside0.mk (vb HO424.out hb); have HO428 := Aside0.mk (Kd.V_lower (Kd.V_mono (ok' := fun k_ => k_ ≠ gb403 ∧ k_ ≠ gb412) ho0 (fun k_ hk_ => ⟨(Kd.freshB (g := gb403) (o := .cells #[.bool t398, .slice Ao53 t399.length co53] 43 (0, 0)) (bk BK403.out) k_ hk_), (Kd.freshB (g := gb412) (o := .cells #[.bool t408, .slice Ao58 t409.length co58] 36 (0, 0)) (bk BK412.out) k_ hk_)⟩)) (below_size bl)); replace BK403 := Aside0.mk (bb BK403.out hb); replace BK412 := Aside0.mk (bb BK412.out hb); replace HB := Aside0.mk (below_step bl hb)
 (try clear hb)
 (try clear hb2)
 (try clear hk)
 (try clear hi)
 (try clear ho0)
 obtain ⟨Ao70, co70, eo70⟩ := Kd.V_slice HO428.out
 (first | subst eo70 | (injection eo70 with f1_ f2_ f3_; have f4_ := f1_.symm; have f5_ := f3_.symm; clear f1_ f2_ f3_; subst f4_; subst f5_))
 refine hK.out _ _ ⟨(blk_cell BK403.out 0).trans rfl, (blk_cell BK403.out 1).trans rfl, (blk_cell BK412.out 0).trans rfl, (blk_cell BK412.out 1).trans rfl⟩ (fun hHeld => ?_)
 clear hK K
 refine norm_ (a' := ?_) ?_ ?_
 rotate_left; focus (show Act.put _ (some 74) _ = _; simp only [Act.put, z1, z2, z3, i64_w, i32_w]; rfl)
 refine one_ (i := 22) (N := some 75) (zb 23 13) rfl rfl (one_of HT_.out (by kernel_rfl)) (by decide) (fun K hK => ?_)
 refine goes_ Try.func26 (by kernel_rfl) rfl #[.agg #[.bool t425, .slice Ao70 t426.length co70]] (by rfl) rfl rfl (by (try simp only [List.map_toArray, List.map_cons, List.map_nil]); first | done | rfl | (simp only [List.length_drop, List.length_take]; rfl)) ?_
 with_reducible refine (maskref4_Dec_Text.calls k t425 _ _ t426 t429 _ ?side1 ?side2 A44.out).mono ?_
 (case side1 => exact kc ((Kd.V_reads' HO428.out).2.2))
 (case side2 => exact (Kd.V_reads' HO428.out).2.1)
 rintro e w71 ⟨rfl, hb⟩
 refine ⟨_, rfl, ?_⟩
 replace HO401 := Aside0.mk (vb HO401.out hb); replace HO411 := Aside0.mk (vb HO411.out hb); replace HO419 := Aside0.mk (vb HO419.out hb); replace HO424 := Aside0.mk (vb HO424.out hb); replace HO428 := Aside0.mk (vb HO428.out hb); replace BK403 := Aside0.mk (bb BK403.out hb); replace BK412 := Aside0.mk (bb BK412.out hb); replace HB := Aside0.mk (below_step bl hb)
 (try clear hb)
 (try clear hb2)
 (try clear hk)
 (try clear hi)
 refine hK.out _ _ ⟨(blk_cell BK403.out 0).trans rfl, (blk_cell BK403.out 1).trans rfl, (blk_cell BK412.out 0).trans rfl, (blk_cell BK412.out 1).trans rfl⟩ (fun hHeld => ?_)
 clear hK K
 refine norm_ (a' := ?_) ?_ ?_
 rotate_left; focus (show Act.put _ (some 75) _ = _; simp only [Act.put, z1, z2, z3, i64_w, i32_w]; rfl)
 refine pure_ (i := 23) (N := some 76) (v := ?_) (a' := ?_) (zb 24 12) rfl rfl (any_of HT_.out (by kernel_rfl)) (fun _ _ _ h => h) (Or.inl ⟨by rfl, ?_⟩) ?_ ?_
 rotate_left; focus (intro w'; go_simp; with_reducible rfl)
 rotate_left; focus (simp only [Act.put, z1, z2, z3, i64_w, i32_w]; rfl)
 refine pure_ (i := 24) (N := some 77) (v := ?_) (a' := ?_) (zb 25 11) rfl rfl (any_of HT_.out (by kernel_rfl)) (fun _ _ _ h => h) (Or.inl ⟨by rfl, ?_⟩) ?_ ?_
 rotate_left; focus (intro w'; go_simp; with_reducible rfl)
 rotate_left; focus (simp only [Act.put, z1, z2, z3, i64_w, i32_w]; rfl)
 refine pure_ (i := 25) (N := some 78) (v := ?_) (a' := ?_) (zb 26 10) rfl rfl (any_of HT_.out (by kernel_rfl)) (fun _ _ _ h => h) (Or.inl ⟨by rfl, ?_⟩) ?_ ?_
 rotate_left; focus (intro w'; go_simp; with_reducible rfl)
 rotate_left; focus (simp only [Act.put, z1, z2, z3, i64_w, i32_w]; rfl)
 refine pure_ (i := 29) (N := some 82) (v := ?_) (a' := ?_) #[true,true,true,true,true,true,true,true,true,true,true,true,true,true,true,true,true,true,true,true,true,true,true,true,true,true,false,false,false,true,false,false,false,false,false,false] rfl rfl (any_of HT_.out (by kernel_rfl)) (fun _ _ _ h => h) (Or.inl ⟨by rfl, ?_⟩) ?_ ?_
 rotate_left; focus (intro w'; go_simp; with_reducible rfl)
 rotate_left; focus (simp only [Act.put, z1, z2, z3, i64_w, i32_w]; rfl)
 refine take_ (i := 26) (N := some 79) (v := ?_) (a' := ?_) #[true,true,true,true,true,true,true,true,true,true,true,true,true,true,true,true,true,true,true,true,true,true,true,true,true,true,true,false,false,true,false,false,false,false,false,false] rfl rfl (take_ofW HT_.out HW_.out (by kernel_rfl)) (fun _ _ _ h => h) (Or.inl ⟨by rfl, ?_⟩) hHeld ?_ ?_
 rotate_left
 · rintro w' ⟨s0, s1, s2, s3⟩
   go_simp
   with_reducible rfl
 rotate_left; focus (simp only [Act.put, z1, z2, z3, i64_w, i32_w]; rfl)
 refine take_ (i := 30) (N := some 83) (v := ?_) (a' := ?_) #[true,true,true,true,true,true,true,true,true,true,true,true,true,true,true,true,true,true,true,true,true,true,true,true,true,true,true,false,false,true,true,false,false,false,false,false] rfl rfl (take_ofW HT_.out HW_.out (by kernel_rfl)) (fun _ _ _ h => h) (Or.inl ⟨by rfl, ?_⟩) hHeld ?_ ?_
 rotate_left
 · rintro w' ⟨s0, s1, s2, s3⟩
   go_simp
   with_reducible rfl
 rotate_left; focus (simp only [Act.put, z1, z2, z3, i64_w, i32_w]; rfl)
 refine pure_ (i := 31) (N := some 84) (v := ?_) (a' := ?_) #[true,true,true,true,true,true,true,true,true,true,true,true,true,true,true,true,true,true,true,true,true,true,true,true,true,true,true,false,false,true,true,true,false,false,false,false] rfl rfl (any_of HT_.out (by kernel_rfl)) (fun _ _ _ h => h) (Or.inl ⟨by rfl, ?_⟩) ?_ ?_
 rotate_left; focus (intro w'; go_simp; with_reducible rfl)
 rotate_left; focus (simp only [Act.put, z1, z2, z3, i64_w, i32_w]; rfl)
 refine one_ (i := 27) (N := some 80) #[true,true,true,true,true,true,true,true,true,true,true,true,true,true,true,true,true,true,true,true,true,true,true,true,true,true,true,true,false,true,true,true,false,false,false,false] rfl rfl (one_of HT_.out (by kernel_rfl)) (by decide) (fun K hK => ?_)
 refine goes_ Try.func30 (by kernel_rfl) rfl #[.agg #[.bool t398, .slice Ao53 t399.length co53]] (by rfl) rfl rfl (by (try simp only [List.map_toArray, List.map_cons, List.map_nil]); first | done | rfl | (simp only [List.length_drop, List.length_take]; rfl)) ?_
 with_reducible refine (exact_Abs.calls t398 (fun k_ => (k_ ≠ gb403 ∧ k_ ≠ gb412)) _ _ t399 t430 t431 _ ?side1 A46.out).mono ?_
 (case side1 => exact HO401.out)
 rintro e w72 ⟨v432, rfl, ho0, hb⟩
 refine ⟨_, rfl, ?_⟩
 replace HO401 := Aside0.mk (vb HO401.out hb); replace HO411 := Aside0.mk (vb HO411.out hb); replace HO419 := Aside0.mk (vb HO419.out hb); replace HO424 := Aside0.mk (vb HO424.out hb); replace HO428 := Aside0.mk (vb HO428.out hb); have HO433 := Aside0.mk (Kd.V_lower (Kd.V_mono (ok' := fun k_ => k_ ≠ gb403 ∧ k_ ≠ gb412) ho0 (fun k_ hk_ => ⟨Or.elim hk_ (fun hs_ => hs_.1) (fun hn_ => (Kd.freshB (g := gb403) (o := .cells #[.bool t398, .slice Ao53 t399.length co53] 43 (0, 0)) (bk BK403.out) k_ hn_)), Or.elim hk_ (fun hs_ => hs_.2) (fun hn_ => (Kd.freshB (g := gb412) (o := .cells #[.bool t408, .slice Ao58 t409.length co58] 36 (0, 0)) (bk BK412.out) k_ hn_))⟩)) (below_size bl)); replace BK403 := Aside0.mk (bb BK403.out hb); replace BK412 := Aside0.mk (bb BK412.out hb); replace HB := Aside0.mk (below_step bl hb)
 (try clear hb)
 (try clear hb2)
 (try clear hk)
 (try clear hi)
 (try clear ho0)
 obtain ⟨Ao73, co73, eo73⟩ := Kd.V_slice HO433.out
 (first | subst eo73 | (injection eo73 with f1_ f2_ f3_; have f4_ := f1_.symm; have f5_ := f3_.symm; clear f1_ f2_ f3_; subst f4_; subst f5_))
 refine hK.out _ _ ⟨(blk_cell BK403.out 0).trans rfl, (blk_cell BK403.out 1).trans rfl, (blk_cell BK412.out 0).trans rfl, (blk_cell BK412.out 1).trans rfl⟩ (fun hHeld => ?_)
 clear hK K
 refine norm_ (a' := ?_) ?_ ?_
 rotate_left; focus (show Act.put _ (some 80) _ = _; simp only [Act.put, z1, z2, z3, i64_w, i32_w]; rfl)
 refine one_ (i := 28) (N := some 81) (zb 32 4) rfl rfl (one_of HT_.out (by kernel_rfl)) (by decide) (fun K hK => ?_)
 refine goes_ Try.func25 (by kernel_rfl) rfl #[.agg #[.bool t430, .slice Ao73 t431.length co73]] (by rfl) rfl rfl (by (try simp only [List.map_toArray, List.map_cons, List.map_nil]); first | done | rfl | (simp only [List.length_drop, List.length_take]; rfl)) ?_
 with_reducible refine (exact_Text.calls k t430 (fun k_ => (k_ ≠ gb403 ∧ k_ ≠ gb412)) _ _ t431 t434 _ ?side1 A47.out).mono ?_
 (case side1 => exact HO433.out)
 rintro e w74 ⟨rfl, hb⟩
 refine ⟨_, rfl, ?_⟩
 replace HO401 := Aside0.mk (vb HO401.out hb); replace HO411 := Aside0.mk (vb HO411.out hb); replace HO419 := Aside0.mk (vb HO419.out hb); replace HO424 := Aside0.mk (vb HO424.out hb); replace HO428 := Aside0.mk (vb HO428.out hb); replace HO433 := Aside0.mk (vb HO433.out hb); replace BK403 := Aside0.mk (bb BK403.out hb); replace BK412 := Aside0.mk (bb BK412.out hb); replace HB := Aside0.mk (below_step bl hb)
 (try clear hb)
 (try clear hb2)
 (try clear hk)
 (try clear hi)
 refine hK.out _ _ ⟨(blk_cell BK403.out 0).trans rfl, (blk_cell BK403.out 1).trans rfl, (blk_cell BK412.out 0).trans rfl, (blk_cell BK412.out 1).trans rfl⟩ (fun hHeld => ?_)
 clear hK K
 refine norm_ (a' := ?_) ?_ ?_
 rotate_left; focus (show Act.put _ (some 81) _ = _; simp only [Act.put, z1, z2, z3, i64_w, i32_w]; rfl)
 refine one_ (i := 32) (N := some 85) (zb 33 3) rfl rfl (one_of HT_.out (by kernel_rfl)) (by decide) (fun K hK => ?_)
 refine goes_ Try.func26 (by kernel_rfl) rfl #[.agg #[.bool false, .slice Ao58 t409.length co58]] (by rfl) rfl rfl (by (try simp only [List.map_toArray, List.map_cons, List.map_nil]); first | done | rfl | (simp only [List.length_drop, List.length_take]; rfl)) ?_
 with_reducible refine (maskref4_Dec_Text.calls k false _ _ t409 t435 _ ?side1 ?side2 A48.out).mono ?_
 (case side1 => exact kc ((Kd.V_reads' HO411.out).2.2))
 (case side2 => exact (Kd.V_reads' HO411.out).2.1)
 rintro e w75 ⟨rfl, hb⟩
 refine ⟨_, rfl, ?_⟩
 have n0_ := Aside0.mk (vb HO401.out hb)
 have n1_ := Aside0.mk (vb HO411.out hb)
 have n2_ := Aside0.mk (vb HO419.out hb)
 have n3_ := Aside0.mk (vb HO424.out hb)
 have n4_ := Aside0.mk (vb HO428.out hb)
 have n5_ := Aside0.mk (vb HO433.out hb)
 have n6_ := Aside0.mk (bb BK403.out hb)
 have n7_ := Aside0.mk (bb BK412.out hb)
 have n8_ := Aside0.mk (below_step bl hb)
 clear HO401
 clear HO411
 clear HO419
 clear HO424
 clear HO428
 clear HO433
 clear BK403
 clear BK412
 clear HB
 have BK403 := n6_
 have BK412 := n7_
 have HB := n8_
 clear n0_ n1_ n2_ n3_ n4_ n5_ n6_ n7_ n8_
 (try clear hb)
 (try clear hb2)
 (try clear hk)
 (try clear hi)
 refine hK.out _ _ ⟨(blk_cell BK403.out 0).trans rfl, (blk_cell BK403.out 1).trans rfl, (blk_cell BK412.out 0).trans rfl, (blk_cell BK412.out 1).trans rfl⟩ (fun hHeld => ?_)
 clear hK K
 refine norm_ (a' := ?_) ?_ ?_
 rotate_left; focus (show Act.put _ (some 85) _ = _; simp only [Act.put, z1, z2, z3, i64_w, i32_w]; rfl)
 refine pure_ (i := 33) (N := some 86) (v := ?_) (a' := ?_) (zb 34 2) rfl rfl (any_of HT_.out (by kernel_rfl)) (fun _ _ _ h => h) (Or.inl ⟨by rfl, ?_⟩) ?_ ?_
 rotate_left; focus (intro w'; go_simp; with_reducible rfl)
 rotate_left; focus (simp only [Act.put, z1, z2, z3, i64_w, i32_w]; rfl)
 refine pure_ (i := 34) (N := some 87) (v := ?_) (a' := ?_) (zb 35 1) rfl rfl (any_of HT_.out (by kernel_rfl)) (fun _ _ _ h => h) (Or.inl ⟨by rfl, ?_⟩) ?_ ?_
 rotate_left; focus (intro w'; go_simp; with_reducible rfl)
 rotate_left; focus (simp only [Act.put, z1, z2, z3, i64_w, i32_w]; rfl)
 refine pure_ (i := 35) (N := some 2) (v := ?_) (a' := ?_) (zb 36 0) rfl rfl (any_of HT_.out (by kernel_rfl)) (fun _ _ _ h => h) (Or.inl ⟨by rfl, ?_⟩) ?_ ?_
 rotate_left; focus (intro w'; go_simp; with_reducible rfl)
 rotate_left; focus (simp only [Act.put, z1, z2, z3, i64_w, i32_w]; rfl)
 refine done_ (done_of HT_.out (by kernel_rfl)) ?_
 try go_wp2
 go_ret
 exact ⟨by first | rfl | (simp [errW_none, errW_some] <;> rfl) | (simp [*, errW_none, errW_some] <;> rfl), bl⟩

/-- THE ONE PURE STATEMENT of masklaw4_ExactReads: yours. -/
def masklaw4_ExactReads.Pure : Prop := ∀ (a0 : ByteArray), a0.size ≤ 140737488351232 → ∃ k, masklaw4_ExactReads.f k a0 = some true
theorem masklaw4_ExactReads.walk (P : masklaw4_ExactReads.Pure) (a0 : ByteArray) (w : World) (w0 : a0.size ≤ 140737488351232) :
 Calls Try.prog 6 #[.string a0] w fun e w' => e = .returned (.bool true) ∧ Below w.heap.size w w' := by
 obtain ⟨k, h⟩ := P a0 w0
 refine (masklaw4_ExactReads.calls k a0 true w h).mono ?_
 rintro e w' ⟨rfl, hd⟩
 exact ⟨rfl, hd⟩

end Go.Proofs.Ytlbljdjbcbgnlaa.PX
