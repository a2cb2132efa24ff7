-- PRINTED by print.py (a twelfth state) out of the translation. Not trusted: Lean checks it.
import Derived.Test.YtlbljdjbcbgnlaaCmp
import Derived.Test.YtlbljdjbcbgnlaaPXx0
import Derived.Test.YtlbljdjbcbgnlaaPXx35
import Derived.Test.YtlbljdjbcbgnlaaPXx38
import Derived.Test.YtlbljdjbcbgnlaaPXx45
import Derived.Test.YtlbljdjbcbgnlaaPXx66
import Derived.Test.YtlbljdjbcbgnlaaPXx42
import Derived.Test.YtlbljdjbcbgnlaaPXx73
namespace Go.Proofs.Ytlbljdjbcbgnlaa.PX
open Go.RowKit Go.Proofs.YtlbljdjbcbgnlaaW.PrintWords Go.Proofs.YtlbljdjbcbgnlaaW.PrintLast Go.Proofs.YtlbljdjbcbgnlaaW.PrintMore
attribute [local go_sem] max2_int min2_int max_two min_two max_three min_three max_four min_four   -- for this text's walks alone
private theorem z1 {α : Type} {l : List α} {i : Nat} {a : α} : l.toArray.setIfInBounds i a = (l.set i a).toArray := List.setIfInBounds_toArray _ _ _
private theorem z2 {α : Type} {x : α} {xs : List α} {a : α} : (x :: xs).set 0 a = a :: xs := List.set_cons_zero
private theorem z3 {α : Type} {x : α} {xs : List α} {n : Nat} {a : α} : (x :: xs).set (n + 1) a = x :: xs.set n a := List.set_cons_succ
private abbrev zb (n m : Nat) : Array Bool := (List.replicate n true ++ List.replicate m false).toArray
set_option linter.unusedVariables false
set_option linter.unusedSimpArgs false

/-! ### masklaw4_ExactAdds: function 8 -/
def masklaw4_ExactAdds.f (k : Nat) (a0 : ByteArray) (a1 : ByteArray) : Option (Bool) := (masklaw4_exacts.f).bind fun t508 => (if t508 = true then ((masklaw4_both.f k a0 a1).bind fun bt509 => (if bt509.2.2.2.2 = true then ((maskref4_DecOf.f k a0).bind fun bt520 => ((maskref4_DecOf.f k a1).bind fun bt524 => ((exact_Add.f k bt509.1 bt509.2.1 bt509.2.2.1 bt509.2.2.2.1).bind fun bt530 => ((exact_Sub.f k bt509.1 bt509.2.1 bt509.2.2.1 bt509.2.2.2.1).bind fun bt536 => ((exact_Mul.f k bt509.1 bt509.2.1 bt509.2.2.1 bt509.2.2.2.1).bind fun bt542 => (if bt530.2.2 = 0 then (if bt536.2.2 = 0 then (if bt542.2.2 = 0 then ((exact_Text.f k bt530.1 bt530.2.1).bind fun t548 => ((maskref4_Dec_Plus.f k bt520.1 bt520.2 bt524.1 bt524.2).bind fun bt549 => ((maskref4_Dec_Text.f k bt549.1 bt549.2).bind fun t553 => (if t548.toList = t553.toList then ((exact_Text.f k bt536.1 bt536.2.1).bind fun t554 => ((maskref4_Dec_Minus.f k bt520.1 bt520.2 bt524.1 bt524.2).bind fun bt555 => ((maskref4_Dec_Text.f k bt555.1 bt555.2).bind fun t559 => (if t554.toList = t559.toList then ((exact_Text.f k bt542.1 bt542.2.1).bind fun t560 => ((maskref4_Dec_Times.f k bt520.1 bt520.2 bt524.1 bt524.2).bind fun bt561 => ((maskref4_Dec_Text.f k bt561.1 bt561.2).bind fun t565 => (if t560.toList = t565.toList then ((exact_Cmp.f k bt509.1 bt509.2.1 bt509.2.2.1 bt509.2.2.2.1).bind fun t566 => ((maskref4_DecCmp.f k bt520.1 bt520.2 bt524.1 bt524.2).bind fun t567 => (some (t566 == t567)))) else (none))))) else (none))))) else (none))))) else (none)) else (none)) else (none))))))) else (some true))) else (none))
theorem masklaw4_ExactAdds.mono : ∀ a0 a1 k, LeO (masklaw4_ExactAdds.f k a0 a1) (masklaw4_ExactAdds.f (k + 1) a0 a1) := by
 intro a0 a1 k
 unfold masklaw4_ExactAdds.f
 repeat' first
  | (with_reducible exact exact_Add.mono _ _ _ _ _)
  | (with_reducible exact exact_Cmp.mono _ _ _ _ _)
  | (with_reducible exact exact_Mul.mono _ _ _ _ _)
  | (with_reducible exact exact_Sub.mono _ _ _ _ _)
  | (with_reducible exact exact_Text.mono _ _ _)
  | (with_reducible exact masklaw4_both.mono _ _ _)
  | (with_reducible exact maskref4_DecCmp.mono _ _ _ _ _)
  | (with_reducible exact maskref4_DecOf.mono _ _)
  | (with_reducible exact maskref4_Dec_Minus.mono _ _ _ _ _)
  | (with_reducible exact maskref4_Dec_Plus.mono _ _ _ _ _)
  | (with_reducible exact maskref4_Dec_Text.mono _ _ _)
  | (with_reducible exact maskref4_Dec_Times.mono _ _ _ _ _)
  | (with_reducible exact LeO.refl _)
  | (with_reducible exact LeO.none _)
  | (with_reducible refine LeO.ite ?_ ?_)
  | (with_reducible refine LeO.bind ?_ (fun _ => ?_))
def masklaw4_ExactAdds.T10 : Bool × List (List Nat × List Nat) := (true, [([], []), ([0], [0]), ([1], [1]), ([2], [2]), ([3, 2], [2, 3]), ([2, 4], [2, 4]), ([5, 2], [5]), ([6], [6]), ([7, 6], [6, 7]), ([6, 8], [6, 8]), ([9, 6], [9]), ([10], [10]), ([11, 10, 10], [10, 11]), ([10], [10]), ([10], [10]), ([13, 14, 12, 10], [10, 13, 14]), ([15, 15, 10], [10, 15]), ([12, 16, 10], [10, 12, 16]), ([10, 17], [10, 17]), ([18, 16], [18]), ([19], [19]), ([20, 19, 19], [19, 20]), ([19], [19]), ([19], [19]), ([22, 23, 21, 19], [19, 22, 23]), ([24, 24, 19], [19, 24]), ([21, 25, 19], [19, 21, 25]), ([19, 26], [19, 26]), ([27, 25], [27]), ([28], [28]), ([29, 28, 28], [28, 29]), ([28], [28]), ([28], [28]), ([31, 32, 30, 28], [28, 31, 32]), ([33, 33, 28], [28, 33]), ([30, 34, 28], [28, 30, 34]), ([28, 35], [28, 35]), ([36, 34], [36]), ([37], [37]), ([37], [37]), ([38, 39, 37, 37], [37, 38, 39]), ([37], [37]), ([37], [37]), ([41, 42, 40, 37], [37, 41, 42]), ([40, 43, 37], [37, 40, 43]), ([37, 44], [37, 44]), ([45, 43, 0, 1, 2, 3, 4, 5, 6, 7, 8, 9, 10, 11, 12, 13, 14, 15, 16, 17, 18, 19, 20, 21, 22, 23, 24, 25, 26, 27, 28, 29, 30, 31, 32, 33, 34, 35, 36, 37, 38, 39, 40, 41, 42, 43, 44, 45], [45])])
def masklaw4_ExactAdds.B10 : List Nat := [0, 1, 3, 7, 15, 31, 63, 127, 255, 511, 1023, 2047, 4095, 2047, 2047, 32767, 65535, 131071, 262143, 524287, 1048575, 2097151, 1048575, 1048575, 16777215, 33554431, 67108863, 134217727, 268435455, 536870911, 1073741823, 536870911, 536870911, 8589934591, 17179869183, 34359738367, 68719476735, 137438953471, 274877906943, 274877906943, 1099511627775, 274877906943, 274877906943, 8796093022207, 17592186044415, 35184372088831, 70368744177663]
theorem masklaw4_ExactAdds.tab10 : rtab .any (opsOf Try.f8 10) = masklaw4_ExactAdds.T10 := by kernel_rfl
theorem masklaw4_ExactAdds.bits10 : waitsOk masklaw4_ExactAdds.T10.2 masklaw4_ExactAdds.B10 = true := by kernel_rfl
set_option maxHeartbeats 8000000 in
set_option maxRecDepth 100000 in
theorem masklaw4_ExactAdds.calls (k : Nat) (a0 : ByteArray) (a1 : ByteArray) (r : Bool) (w : World) (h : masklaw4_ExactAdds.f k a0 a1 = some r) :
 Calls Try.prog 8 #[.string a0, .string a1] w fun e w' => e = .returned (.bool r) ∧ Below w.heap.size w w' := by
 have HB := Aside0.mk (Below.refl w.heap.size w)
 have H : ((masklaw4_exacts.f).bind fun t508 => (if t508 = true then ((masklaw4_both.f k a0 a1).bind fun bt509 => (if bt509.2.2.2.2 = true then ((maskref4_DecOf.f k a0).bind fun bt520 => ((maskref4_DecOf.f k a1).bind fun bt524 => ((exact_Add.f k bt509.1 bt509.2.1 bt509.2.2.1 bt509.2.2.2.1).bind fun bt530 => ((exact_Sub.f k bt509.1 bt509.2.1 bt509.2.2.1 bt509.2.2.2.1).bind fun bt536 => ((exact_Mul.f k bt509.1 bt509.2.1 bt509.2.2.1 bt509.2.2.2.1).bind fun bt542 => (if bt530.2.2 = 0 then (if bt536.2.2 = 0 then (if bt542.2.2 = 0 then ((exact_Text.f k bt530.1 bt530.2.1).bind fun t548 => ((maskref4_Dec_Plus.f k bt520.1 bt520.2 bt524.1 bt524.2).bind fun bt549 => ((maskref4_Dec_Text.f k bt549.1 bt549.2).bind fun t553 => (if t548.toList = t553.toList then ((exact_Text.f k bt536.1 bt536.2.1).bind fun t554 => ((maskref4_Dec_Minus.f k bt520.1 bt520.2 bt524.1 bt524.2).bind fun bt555 => ((maskref4_Dec_Text.f k bt555.1 bt555.2).bind fun t559 => (if t554.toList = t559.toList then ((exact_Text.f k bt542.1 bt542.2.1).bind fun t560 => ((maskref4_Dec_Times.f k bt520.1 bt520.2 bt524.1 bt524.2).bind fun bt561 => ((maskref4_Dec_Text.f k bt561.1 bt561.2).bind fun t565 => (if t560.toList = t565.toList then ((exact_Cmp.f k bt509.1 bt509.2.1 bt509.2.2.1 bt509.2.2.2.1).bind fun t566 => ((maskref4_DecCmp.f k bt520.1 bt520.2 bt524.1 bt524.2).bind fun t567 => (some (t566 == t567)))) else (none))))) else (none))))) else (none))))) else (none)) else (none)) else (none))))))) else (some true))) else (none))) = some r := h
 clear h
 replace H := Option.bind_eq_some_iff.mp H
 obtain ⟨t508, A30, H⟩ := H
 replace H : (if t508 = true then ((masklaw4_both.f k a0 a1).bind fun bt509 => (if bt509.2.2.2.2 = true then ((maskref4_DecOf.f k a0).bind fun bt520 => ((maskref4_DecOf.f k a1).bind fun bt524 => ((exact_Add.f k bt509.1 bt509.2.1 bt509.2.2.1 bt509.2.2.2.1).bind fun bt530 => ((exact_Sub.f k bt509.1 bt509.2.1 bt509.2.2.1 bt509.2.2.2.1).bind fun bt536 => ((exact_Mul.f k bt509.1 bt509.2.1 bt509.2.2.1 bt509.2.2.2.1).bind fun bt542 => (if bt530.2.2 = 0 then (if bt536.2.2 = 0 then (if bt542.2.2 = 0 then ((exact_Text.f k bt530.1 bt530.2.1).bind fun t548 => ((maskref4_Dec_Plus.f k bt520.1 bt520.2 bt524.1 bt524.2).bind fun bt549 => ((maskref4_Dec_Text.f k bt549.1 bt549.2).bind fun t553 => (if t548.toList = t553.toList then ((exact_Text.f k bt536.1 bt536.2.1).bind fun t554 => ((maskref4_Dec_Minus.f k bt520.1 bt520.2 bt524.1 bt524.2).bind fun bt555 => ((maskref4_Dec_Text.f k bt555.1 bt555.2).bind fun t559 => (if t554.toList = t559.toList then ((exact_Text.f k bt542.1 bt542.2.1).bind fun t560 => ((maskref4_Dec_Times.f k bt520.1 bt520.2 bt524.1 bt524.2).bind fun bt561 => ((maskref4_Dec_Text.f k bt561.1 bt561.2).bind fun t565 => (if t560.toList = t565.toList then ((exact_Cmp.f k bt509.1 bt509.2.1 bt509.2.2.1 bt509.2.2.2.1).bind fun t566 => ((maskref4_DecCmp.f k bt520.1 bt520.2 bt524.1 bt524.2).bind fun t567 => (some (t566 == t567)))) else (none))))) else (none))))) else (none))))) else (none)) else (none)) else (none))))))) else (some true))) else (none)) = some r := H
 have A3 := Aside0.mk A30
 clear A30
 by_cases c4 : t508 = true
 rotate_left
 · replace c4 := Bool.eq_false_iff.mpr c4
   subst c4
   have H1 : (none) = some r := by rw [if_neg (show ¬ (false = true) by decide)] at H; exact H
   clear H
   have H := H1
   clear H1
   exact absurd H (by simp)
 subst c4
 have H1 : ((masklaw4_both.f k a0 a1).bind fun bt509 => (if bt509.2.2.2.2 = true then ((maskref4_DecOf.f k a0).bind fun bt520 => ((maskref4_DecOf.f k a1).bind fun bt524 => ((exact_Add.f k bt509.1 bt509.2.1 bt509.2.2.1 bt509.2.2.2.1).bind fun bt530 => ((exact_Sub.f k bt509.1 bt509.2.1 bt509.2.2.1 bt509.2.2.2.1).bind fun bt536 => ((exact_Mul.f k bt509.1 bt509.2.1 bt509.2.2.1 bt509.2.2.2.1).bind fun bt542 => (if bt530.2.2 = 0 then (if bt536.2.2 = 0 then (if bt542.2.2 = 0 then ((exact_Text.f k bt530.1 bt530.2.1).bind fun t548 => ((maskref4_Dec_Plus.f k bt520.1 bt520.2 bt524.1 bt524.2).bind fun bt549 => ((maskref4_Dec_Text.f k bt549.1 bt549.2).bind fun t553 => (if t548.toList = t553.toList then ((exact_Text.f k bt536.1 bt536.2.1).bind fun t554 => ((maskref4_Dec_Minus.f k bt520.1 bt520.2 bt524.1 bt524.2).bind fun bt555 => ((maskref4_Dec_Text.f k bt555.1 bt555.2).bind fun t559 => (if t554.toList = t559.toList then ((exact_Text.f k bt542.1 bt542.2.1).bind fun t560 => ((maskref4_Dec_Times.f k bt520.1 bt520.2 bt524.1 bt524.2).bind fun bt561 => ((maskref4_Dec_Text.f k bt561.1 bt561.2).bind fun t565 => (if t560.toList = t565.toList then ((exact_Cmp.f k bt509.1 bt509.2.1 bt509.2.2.1 bt509.2.2.2.1).bind fun t566 => ((maskref4_DecCmp.f k bt520.1 bt520.2 bt524.1 bt524.2).bind fun t567 => (some (t566 == t567)))) else (none))))) else (none))))) else (none))))) else (none)) else (none)) else (none))))))) else (some true))) = some r := by rw [if_pos rfl] at H; exact H
 clear H
 have H := H1
 clear H1
 replace H := Option.bind_eq_some_iff.mp H
 obtain ⟨⟨t509, t510, t513, t514, t517⟩, A50, H⟩ := H
 replace H : (if t517 = true then ((maskref4_DecOf.f k a0).bind fun bt520 => ((maskref4_DecOf.f k a1).bind fun bt524 => ((exact_Add.f k t509 t510 t513 t514).bind fun bt530 => ((exact_Sub.f k t509 t510 t513 t514).bind fun bt536 => ((exact_Mul.f k t509 t510 t513 t514).bind fun bt542 => (if bt530.2.2 = 0 then (if bt536.2.2 = 0 then (if bt542.2.2 = 0 then ((exact_Text.f k bt530.1 bt530.2.1).bind fun t548 => ((maskref4_Dec_Plus.f k bt520.1 bt520.2 bt524.1 bt524.2).bind fun bt549 => ((maskref4_Dec_Text.f k bt549.1 bt549.2).bind fun t553 => (if t548.toList = t553.toList then ((exact_Text.f k bt536.1 bt536.2.1).bind fun t554 => ((maskref4_Dec_Minus.f k bt520.1 bt520.2 bt524.1 bt524.2).bind fun bt555 => ((maskref4_Dec_Text.f k bt555.1 bt555.2).bind fun t559 => (if t554.toList = t559.toList then ((exact_Text.f k bt542.1 bt542.2.1).bind fun t560 => ((maskref4_Dec_Times.f k bt520.1 bt520.2 bt524.1 bt524.2).bind fun bt561 => ((maskref4_Dec_Text.f k bt561.1 bt561.2).bind fun t565 => (if t560.toList = t565.toList then ((exact_Cmp.f k t509 t510 t513 t514).bind fun t566 => ((maskref4_DecCmp.f k bt520.1 bt520.2 bt524.1 bt524.2).bind fun t567 => (some (t566 == t567)))) else (none))))) else (none))))) else (none))))) else (none)) else (none)) else (none))))))) else (some true)) = some r := H
 have A5 := Aside0.mk A50
 clear A50
 by_cases c6 : t517 = true
 rotate_left
 · replace c6 := Bool.eq_false_iff.mpr c6
   subst c6
   have H1 : (some true) = some r := by rw [if_neg (show ¬ (false = true) by decide)] at H; exact H
   clear H
   have H := H1
   clear H1
   obtain rfl := Option.some.inj H
   go_enter Try.func8, Try.ntmps8
   go_wp2_with (first | ((with_reducible refine gate_callee (f := 11) rfl ?_); refine goesL_ (some 16) rfl rfl Try.func11 (by kernel_rfl) rfl #[] rfl (by (try simp only [List.map_toArray, List.map_cons, List.map_nil]); first | done | rfl | (simp only [List.length_drop, List.length_take]; rfl)) ?_; (with_reducible refine (masklaw4_exacts.calls  true _ A3.out).mono ?_); rintro e w101 ⟨rfl, hb⟩; refine ⟨_, rfl, ?_⟩; replace HB := Aside0.mk (below_step bl hb); (try clear hb)) | ((with_reducible refine gate_callee (f := 39) rfl ?_); refine goesL_ (some 21) rfl rfl Try.func39 (by kernel_rfl) rfl #[.string a0, .string a1] rfl (by (try simp only [List.map_toArray, List.map_cons, List.map_nil]); first | done | rfl | (simp only [List.length_drop, List.length_take]; rfl)) ?_; (with_reducible refine (masklaw4_both.calls k a0 a1 t509 t510 t513 t514 false _ A5.out).mono ?_); rintro e w102 ⟨v511, v515, rfl, ho0, ho1, hb⟩; refine ⟨_, rfl, ?_⟩; have HO512 := Aside0.mk (Kd.V_lower (Kd.V_mono (ok' := fun k_ => True) ho0 (fun k_ hk_ => trivial)) (below_size bl)); have HO516 := Aside0.mk (Kd.V_lower (Kd.V_mono (ok' := fun k_ => True) ho1 (fun k_ hk_ => trivial)) (below_size bl)); replace HB := Aside0.mk (below_step bl hb); (try clear hb); (try clear ho0); (try clear ho1)) | ((with_reducible refine gate_dst (N := 5) rfl ?_); refine box_event ?hg (N := 5) ?hd (cs := #[.bool false, .slice none 0 0]) (t := 43) ?hr ?_; (case hd => rfl); (case hg => rfl); (case hr => first | (go_simp; done) | (go_simp; rfl)); intro gb518 hg w103 hbox hb; replace HO512 := Aside0.mk (Kd.V_below (Kd.V_elderB (vk HO512.out) gb518 (Nat.le_of_eq hg.symm)) hb); replace HO516 := Aside0.mk (Kd.V_below (Kd.V_elderB (vk HO516.out) gb518 (Nat.le_of_eq hg.symm)) hb); have BK518 := Aside0.mk (hbox); have GE518 := Aside0.mk (ge (w := w) hg); replace HB := Aside0.mk (below_step bl hb); clear hb hbox hg) | ((with_reducible refine gate_dst (N := 6) rfl ?_); refine box_event ?hg (N := 6) ?hd (cs := #[.bool false, .slice none 0 0]) (t := 43) ?hr ?_; (case hd => rfl); (case hg => rfl); (case hr => first | (go_simp; done) | (go_simp; rfl)); intro gb519 hg w104 hbox hb; replace HO512 := Aside0.mk (Kd.V_below (Kd.V_elderB (vk HO512.out) gb519 (Nat.le_of_eq hg.symm)) hb); replace HO516 := Aside0.mk (Kd.V_below (Kd.V_elderB (vk HO516.out) gb519 (Nat.le_of_eq hg.symm)) hb); have BK519 := Aside0.mk (hbox); have GE519 := Aside0.mk (ge (w := w) hg); replace HB := Aside0.mk (below_step bl hb); have NB518_519 := Aside0.mk (nl hg (bk BK518.out)); have NB519_518 := Aside0.mk (ng hg (bk BK518.out)); replace BK518 := Aside0.mk (bb BK518.out hb); clear hb hbox hg; have hnc105 := NB519_518.out; obtain ⟨hcz106_0, hcz106_1, hfz106_0, hfz106_1⟩ := bz2 BK518.out; obtain ⟨Ao107, co107, eo107⟩ := Kd.V_slice HO512.out; subst eo107; obtain ⟨hcz108_0, hcz108_1, hfz108_0, hfz108_1⟩ := bz2 BK519.out; obtain ⟨Ao109, co109, eo109⟩ := Kd.V_slice HO516.out; subst eo109))
   go_ret
   exact ⟨by first | rfl | (simp [errW_none, errW_some] <;> rfl) | (simp [*, errW_none, errW_some] <;> rfl), bl⟩
 subst c6
 have H1 : ((maskref4_DecOf.f k a0).bind fun bt520 => ((maskref4_DecOf.f k a1).bind fun bt524 => ((exact_Add.f k t509 t510 t513 t514).bind fun bt530 => ((exact_Sub.f k t509 t510 t513 t514).bind fun bt536 => ((exact_Mul.f k t509 t510 t513 t514).bind fun bt542 => (if bt530.2.2 = 0 then (if bt536.2.2 = 0 then (if bt542.2.2 = 0 then ((exact_Text.f k bt530.1 bt530.2.1).bind fun t548 => ((maskref4_Dec_Plus.f k bt520.1 bt520.2 bt524.1 bt524.2).bind fun bt549 => ((maskref4_Dec_Text.f k bt549.1 bt549.2).bind fun t553 => (if t548.toList = t553.toList then ((exact_Text.f k bt536.1 bt536.2.1).bind fun t554 => ((maskref4_Dec_Minus.f k bt520.1 bt520.2 bt524.1 bt524.2).bind fun bt555 => ((maskref4_Dec_Text.f k bt555.1 bt555.2).bind fun t559 => (if t554.toList = t559.toList then ((exact_Text.f k bt542.1 bt542.2.1).bind fun t560 => ((maskref4_Dec_Times.f k bt520.1 bt520.2 bt524.1 bt524.2).bind fun bt561 => ((maskref4_Dec_Text.f k bt561.1 bt561.2).bind fun t565 => (if t560.toList = t565.toList then ((exact_Cmp.f k t509 t510 t513 t514).bind fun t566 => ((maskref4_DecCmp.f k bt520.1 bt520.2 bt524.1 bt524.2).bind fun t567 => (some (t566 == t567)))) else (none))))) else (none))))) else (none))))) else (none)) else (none)) else (none))))))) = some r := by rw [if_pos rfl] at H; exact H
 clear H
 have H := H1
 clear H1
 replace H := Option.bind_eq_some_iff.mp H
 obtain ⟨⟨t520, t521⟩, A70, H⟩ := H
 replace H : ((maskref4_DecOf.f k a1).bind fun bt524 => ((exact_Add.f k t509 t510 t513 t514).bind fun bt530 => ((exact_Sub.f k t509 t510 t513 t514).bind fun bt536 => ((exact_Mul.f k t509 t510 t513 t514).bind fun bt542 => (if bt530.2.2 = 0 then (if bt536.2.2 = 0 then (if bt542.2.2 = 0 then ((exact_Text.f k bt530.1 bt530.2.1).bind fun t548 => ((maskref4_Dec_Plus.f k t520 t521 bt524.1 bt524.2).bind fun bt549 => ((maskref4_Dec_Text.f k bt549.1 bt549.2).bind fun t553 => (if t548.toList = t553.toList then ((exact_Text.f k bt536.1 bt536.2.1).bind fun t554 => ((maskref4_Dec_Minus.f k t520 t521 bt524.1 bt524.2).bind fun bt555 => ((maskref4_Dec_Text.f k bt555.1 bt555.2).bind fun t559 => (if t554.toList = t559.toList then ((exact_Text.f k bt542.1 bt542.2.1).bind fun t560 => ((maskref4_Dec_Times.f k t520 t521 bt524.1 bt524.2).bind fun bt561 => ((maskref4_Dec_Text.f k bt561.1 bt561.2).bind fun t565 => (if t560.toList = t565.toList then ((exact_Cmp.f k t509 t510 t513 t514).bind fun t566 => ((maskref4_DecCmp.f k t520 t521 bt524.1 bt524.2).bind fun t567 => (some (t566 == t567)))) else (none))))) else (none))))) else (none))))) else (none)) else (none)) else (none)))))) = some r := H
 have A7 := Aside0.mk A70
 clear A70
 replace H := Option.bind_eq_some_iff.mp H
 obtain ⟨⟨t524, t525⟩, A80, H⟩ := H
 replace H : ((exact_Add.f k t509 t510 t513 t514).bind fun bt530 => ((exact_Sub.f k t509 t510 t513 t514).bind fun bt536 => ((exact_Mul.f k t509 t510 t513 t514).bind fun bt542 => (if bt530.2.2 = 0 then (if bt536.2.2 = 0 then (if bt542.2.2 = 0 then ((exact_Text.f k bt530.1 bt530.2.1).bind fun t548 => ((maskref4_Dec_Plus.f k t520 t521 t524 t525).bind fun bt549 => ((maskref4_Dec_Text.f k bt549.1 bt549.2).bind fun t553 => (if t548.toList = t553.toList then ((exact_Text.f k bt536.1 bt536.2.1).bind fun t554 => ((maskref4_Dec_Minus.f k t520 t521 t524 t525).bind fun bt555 => ((maskref4_Dec_Text.f k bt555.1 bt555.2).bind fun t559 => (if t554.toList = t559.toList then ((exact_Text.f k bt542.1 bt542.2.1).bind fun t560 => ((maskref4_Dec_Times.f k t520 t521 t524 t525).bind fun bt561 => ((maskref4_Dec_Text.f k bt561.1 bt561.2).bind fun t565 => (if t560.toList = t565.toList then ((exact_Cmp.f k t509 t510 t513 t514).bind fun t566 => ((maskref4_DecCmp.f k t520 t521 t524 t525).bind fun t567 => (some (t566 == t567)))) else (none))))) else (none))))) else (none))))) else (none)) else (none)) else (none))))) = some r := H
 have A8 := Aside0.mk A80
 clear A80
 replace H := Option.bind_eq_some_iff.mp H
 obtain ⟨⟨t530, t531, t534⟩, A90, H⟩ := H
 replace H : ((exact_Sub.f k t509 t510 t513 t514).bind fun bt536 => ((exact_Mul.f k t509 t510 t513 t514).bind fun bt542 => (if t534 = 0 then (if bt536.2.2 = 0 then (if bt542.2.2 = 0 then ((exact_Text.f k t530 t531).bind fun t548 => ((maskref4_Dec_Plus.f k t520 t521 t524 t525).bind fun bt549 => ((maskref4_Dec_Text.f k bt549.1 bt549.2).bind fun t553 => (if t548.toList = t553.toList then ((exact_Text.f k bt536.1 bt536.2.1).bind fun t554 => ((maskref4_Dec_Minus.f k t520 t521 t524 t525).bind fun bt555 => ((maskref4_Dec_Text.f k bt555.1 bt555.2).bind fun t559 => (if t554.toList = t559.toList then ((exact_Text.f k bt542.1 bt542.2.1).bind fun t560 => ((maskref4_Dec_Times.f k t520 t521 t524 t525).bind fun bt561 => ((maskref4_Dec_Text.f k bt561.1 bt561.2).bind fun t565 => (if t560.toList = t565.toList then ((exact_Cmp.f k t509 t510 t513 t514).bind fun t566 => ((maskref4_DecCmp.f k t520 t521 t524 t525).bind fun t567 => (some (t566 == t567)))) else (none))))) else (none))))) else (none))))) else (none)) else (none)) else (none)))) = some r := H
 have A9 := Aside0.mk A90
 clear A90
 replace H := Option.bind_eq_some_iff.mp H
 obtain ⟨⟨t536, t537, t540⟩, A100, H⟩ := H
 replace H : ((exact_Mul.f k t509 t510 t513 t514).bind fun bt542 => (if t534 = 0 then (if t540 = 0 then (if bt542.2.2 = 0 then ((exact_Text.f k t530 t531).bind fun t548 => ((maskref4_Dec_Plus.f k t520 t521 t524 t525).bind fun bt549 => ((maskref4_Dec_Text.f k bt549.1 bt549.2).bind fun t553 => (if t548.toList = t553.toList then ((exact_Text.f k t536 t537).bind fun t554 => ((maskref4_Dec_Minus.f k t520 t521 t524 t525).bind fun bt555 => ((maskref4_Dec_Text.f k bt555.1 bt555.2).bind fun t559 => (if t554.toList = t559.toList then ((exact_Text.f k bt542.1 bt542.2.1).bind fun t560 => ((maskref4_Dec_Times.f k t520 t521 t524 t525).bind fun bt561 => ((maskref4_Dec_Text.f k bt561.1 bt561.2).bind fun t565 => (if t560.toList = t565.toList then ((exact_Cmp.f k t509 t510 t513 t514).bind fun t566 => ((maskref4_DecCmp.f k t520 t521 t524 t525).bind fun t567 => (some (t566 == t567)))) else (none))))) else (none))))) else (none))))) else (none)) else (none)) else (none))) = some r := H
 have A10 := Aside0.mk A100
 clear A100
 replace H := Option.bind_eq_some_iff.mp H
 obtain ⟨⟨t542, t543, t546⟩, A110, H⟩ := H
 replace H : (if t534 = 0 then (if t540 = 0 then (if t546 = 0 then ((exact_Text.f k t530 t531).bind fun t548 => ((maskref4_Dec_Plus.f k t520 t521 t524 t525).bind fun bt549 => ((maskref4_Dec_Text.f k bt549.1 bt549.2).bind fun t553 => (if t548.toList = t553.toList then ((exact_Text.f k t536 t537).bind fun t554 => ((maskref4_Dec_Minus.f k t520 t521 t524 t525).bind fun bt555 => ((maskref4_Dec_Text.f k bt555.1 bt555.2).bind fun t559 => (if t554.toList = t559.toList then ((exact_Text.f k t542 t543).bind fun t560 => ((maskref4_Dec_Times.f k t520 t521 t524 t525).bind fun bt561 => ((maskref4_Dec_Text.f k bt561.1 bt561.2).bind fun t565 => (if t560.toList = t565.toList then ((exact_Cmp.f k t509 t510 t513 t514).bind fun t566 => ((maskref4_DecCmp.f k t520 t521 t524 t525).bind fun t567 => (some (t566 == t567)))) else (none))))) else (none))))) else (none))))) else (none)) else (none)) else (none)) = some r := H
 have A11 := Aside0.mk A110
 clear A110
 by_cases c12 : t534 = 0
 rotate_left
 · rw [if_neg c12] at H
   exact absurd H (by simp)
 rw [if_pos c12] at H
 have c12b0 : (t534 == 0) = true := beq_iff_eq.mpr c12
 have c12b1 : (t534 != 0) = false := bne_eq_false_iff_eq.mpr c12
 clear c12
 by_cases c13 : t540 = 0
 rotate_left
 · rw [if_neg c13] at H
   exact absurd H (by simp)
 rw [if_pos c13] at H
 have c13b0 : (t540 == 0) = true := beq_iff_eq.mpr c13
 have c13b1 : (t540 != 0) = false := bne_eq_false_iff_eq.mpr c13
 clear c13
 by_cases c14 : t546 = 0
 rotate_left
 · rw [if_neg c14] at H
   exact absurd H (by simp)
 rw [if_pos c14] at H
 have c14b0 : (t546 == 0) = true := beq_iff_eq.mpr c14
 clear c14
 replace H := Option.bind_eq_some_iff.mp H
 obtain ⟨t548, A150, H⟩ := H
 replace H : ((maskref4_Dec_Plus.f k t520 t521 t524 t525).bind fun bt549 => ((maskref4_Dec_Text.f k bt549.1 bt549.2).bind fun t553 => (if t548.toList = t553.toList then ((exact_Text.f k t536 t537).bind fun t554 => ((maskref4_Dec_Minus.f k t520 t521 t524 t525).bind fun bt555 => ((maskref4_Dec_Text.f k bt555.1 bt555.2).bind fun t559 => (if t554.toList = t559.toList then ((exact_Text.f k t542 t543).bind fun t560 => ((maskref4_Dec_Times.f k t520 t521 t524 t525).bind fun bt561 => ((maskref4_Dec_Text.f k bt561.1 bt561.2).bind fun t565 => (if t560.toList = t565.toList then ((exact_Cmp.f k t509 t510 t513 t514).bind fun t566 => ((maskref4_DecCmp.f k t520 t521 t524 t525).bind fun t567 => (some (t566 == t567)))) else (none))))) else (none))))) else (none)))) = some r := H
 have A15 := Aside0.mk A150
 clear A150
 replace H := Option.bind_eq_some_iff.mp H
 obtain ⟨⟨t549, t550⟩, A160, H⟩ := H
 replace H : ((maskref4_Dec_Text.f k t549 t550).bind fun t553 => (if t548.toList = t553.toList then ((exact_Text.f k t536 t537).bind fun t554 => ((maskref4_Dec_Minus.f k t520 t521 t524 t525).bind fun bt555 => ((maskref4_Dec_Text.f k bt555.1 bt555.2).bind fun t559 => (if t554.toList = t559.toList then ((exact_Text.f k t542 t543).bind fun t560 => ((maskref4_Dec_Times.f k t520 t521 t524 t525).bind fun bt561 => ((maskref4_Dec_Text.f k bt561.1 bt561.2).bind fun t565 => (if t560.toList = t565.toList then ((exact_Cmp.f k t509 t510 t513 t514).bind fun t566 => ((maskref4_DecCmp.f k t520 t521 t524 t525).bind fun t567 => (some (t566 == t567)))) else (none))))) else (none))))) else (none))) = some r := H
 have A16 := Aside0.mk A160
 clear A160
 replace H := Option.bind_eq_some_iff.mp H
 obtain ⟨t553, A170, H⟩ := H
 replace H : (if t548.toList = t553.toList then ((exact_Text.f k t536 t537).bind fun t554 => ((maskref4_Dec_Minus.f k t520 t521 t524 t525).bind fun bt555 => ((maskref4_Dec_Text.f k bt555.1 bt555.2).bind fun t559 => (if t554.toList = t559.toList then ((exact_Text.f k t542 t543).bind fun t560 => ((maskref4_Dec_Times.f k t520 t521 t524 t525).bind fun bt561 => ((maskref4_Dec_Text.f k bt561.1 bt561.2).bind fun t565 => (if t560.toList = t565.toList then ((exact_Cmp.f k t509 t510 t513 t514).bind fun t566 => ((maskref4_DecCmp.f k t520 t521 t524 t525).bind fun t567 => (some (t566 == t567)))) else (none))))) else (none))))) else (none)) = some r := H
 have A17 := Aside0.mk A170
 clear A170
 by_cases c18 : t548.toList = t553.toList
 rotate_left
 · rw [if_neg c18] at H
   exact absurd H (by simp)
 rw [if_pos c18] at H
 have c18b0 : (t548.toList == t553.toList) = true := beq_iff_eq.mpr c18
 clear c18
 replace H := Option.bind_eq_some_iff.mp H
 obtain ⟨t554, A190, H⟩ := H
 replace H : ((maskref4_Dec_Minus.f k t520 t521 t524 t525).bind fun bt555 => ((maskref4_Dec_Text.f k bt555.1 bt555.2).bind fun t559 => (if t554.toList = t559.toList then ((exact_Text.f k t542 t543).bind fun t560 => ((maskref4_Dec_Times.f k t520 t521 t524 t525).bind fun bt561 => ((maskref4_Dec_Text.f k bt561.1 bt561.2).bind fun t565 => (if t560.toList = t565.toList then ((exact_Cmp.f k t509 t510 t513 t514).bind fun t566 => ((maskref4_DecCmp.f k t520 t521 t524 t525).bind fun t567 => (some (t566 == t567)))) else (none))))) else (none)))) = some r := H
 have A19 := Aside0.mk A190
 clear A190
 replace H := Option.bind_eq_some_iff.mp H
 obtain ⟨⟨t555, t556⟩, A200, H⟩ := H
 replace H : ((maskref4_Dec_Text.f k t555 t556).bind fun t559 => (if t554.toList = t559.toList then ((exact_Text.f k t542 t543).bind fun t560 => ((maskref4_Dec_Times.f k t520 t521 t524 t525).bind fun bt561 => ((maskref4_Dec_Text.f k bt561.1 bt561.2).bind fun t565 => (if t560.toList = t565.toList then ((exact_Cmp.f k t509 t510 t513 t514).bind fun t566 => ((maskref4_DecCmp.f k t520 t521 t524 t525).bind fun t567 => (some (t566 == t567)))) else (none))))) else (none))) = some r := H
 have A20 := Aside0.mk A200
 clear A200
 replace H := Option.bind_eq_some_iff.mp H
 obtain ⟨t559, A210, H⟩ := H
 replace H : (if t554.toList = t559.toList then ((exact_Text.f k t542 t543).bind fun t560 => ((maskref4_Dec_Times.f k t520 t521 t524 t525).bind fun bt561 => ((maskref4_Dec_Text.f k bt561.1 bt561.2).bind fun t565 => (if t560.toList = t565.toList then ((exact_Cmp.f k t509 t510 t513 t514).bind fun t566 => ((maskref4_DecCmp.f k t520 t521 t524 t525).bind fun t567 => (some (t566 == t567)))) else (none))))) else (none)) = some r := H
 have A21 := Aside0.mk A210
 clear A210
 by_cases c22 : t554.toList = t559.toList
 rotate_left
 · rw [if_neg c22] at H
   exact absurd H (by simp)
 rw [if_pos c22] at H
 have c22b0 : (t554.toList == t559.toList) = true := beq_iff_eq.mpr c22
 clear c22
 replace H := Option.bind_eq_some_iff.mp H
 obtain ⟨t560, A230, H⟩ := H
 replace H : ((maskref4_Dec_Times.f k t520 t521 t524 t525).bind fun bt561 => ((maskref4_Dec_Text.f k bt561.1 bt561.2).bind fun t565 => (if t560.toList = t565.toList then ((exact_Cmp.f k t509 t510 t513 t514).bind fun t566 => ((maskref4_DecCmp.f k t520 t521 t524 t525).bind fun t567 => (some (t566 == t567)))) else (none)))) = some r := H
 have A23 := Aside0.mk A230
 clear A230
 replace H := Option.bind_eq_some_iff.mp H
 obtain ⟨⟨t561, t562⟩, A240, H⟩ := H
 replace H : ((maskref4_Dec_Text.f k t561 t562).bind fun t565 => (if t560.toList = t565.toList then ((exact_Cmp.f k t509 t510 t513 t514).bind fun t566 => ((maskref4_DecCmp.f k t520 t521 t524 t525).bind fun t567 => (some (t566 == t567)))) else (none))) = some r := H
 have A24 := Aside0.mk A240
 clear A240
 replace H := Option.bind_eq_some_iff.mp H
 obtain ⟨t565, A250, H⟩ := H
 replace H : (if t560.toList = t565.toList then ((exact_Cmp.f k t509 t510 t513 t514).bind fun t566 => ((maskref4_DecCmp.f k t520 t521 t524 t525).bind fun t567 => (some (t566 == t567)))) else (none)) = some r := H
 have A25 := Aside0.mk A250
 clear A250
 by_cases c26 : t560.toList = t565.toList
 rotate_left
 · rw [if_neg c26] at H
   exact absurd H (by simp)
 rw [if_pos c26] at H
 have c26b0 : (t560.toList == t565.toList) = true := beq_iff_eq.mpr c26
 clear c26
 replace H := Option.bind_eq_some_iff.mp H
 obtain ⟨t566, A270, H⟩ := H
 replace H : ((maskref4_DecCmp.f k t520 t521 t524 t525).bind fun t567 => (some (t566 == t567))) = some r := H
 have A27 := Aside0.mk A270
 clear A270
 replace H := Option.bind_eq_some_iff.mp H
 obtain ⟨t567, A280, H⟩ := H
 replace H : (some (t566 == t567)) = some r := H
 have A28 := Aside0.mk A280
 clear A280
 obtain rfl := Option.some.inj H
 go_enter Try.func8, Try.ntmps8
 try go_wp2_with (first | ((with_reducible refine gate_callee (f := 11) rfl ?_); refine goesL_ (some 16) rfl rfl Try.func11 (by kernel_rfl) rfl #[] rfl (by (try simp only [List.map_toArray, List.map_cons, List.map_nil]); first | done | rfl | (simp only [List.length_drop, List.length_take]; rfl)) ?_; (with_reducible refine (masklaw4_exacts.calls  true _ A3.out).mono ?_); rintro e w29 ⟨rfl, hb⟩; refine ⟨_, rfl, ?_⟩; replace HB := Aside0.mk (below_step bl hb); (try clear hb)) | ((with_reducible refine gate_callee (f := 39) rfl ?_); refine goesL_ (some 21) rfl rfl Try.func39 (by kernel_rfl) rfl #[.string a0, .string a1] rfl (by (try simp only [List.map_toArray, List.map_cons, List.map_nil]); first | done | rfl | (simp only [List.length_drop, List.length_take]; rfl)) ?_; (with_reducible refine (masklaw4_both.calls k a0 a1 t509 t510 t513 t514 true _ A5.out).mono ?_); rintro e w30 ⟨v511, v515, rfl, ho0, ho1, hb⟩; refine ⟨_, rfl, ?_⟩; have HO512 := Aside0.mk (Kd.V_lower (Kd.V_mono (ok' := fun k_ => True) ho0 (fun k_ hk_ => trivial)) (below_size bl)); have HO516 := Aside0.mk (Kd.V_lower (Kd.V_mono (ok' := fun k_ => True) ho1 (fun k_ hk_ => trivial)) (below_size bl)); replace HB := Aside0.mk (below_step bl hb); (try clear hb); (try clear ho0); (try clear ho1)) | ((with_reducible refine gate_dst (N := 5) rfl ?_); refine box_event ?hg (N := 5) ?hd (cs := #[.bool false, .slice none 0 0]) (t := 43) ?hr ?_; (case hd => rfl); (case hg => rfl); (case hr => first | (go_simp; done) | (go_simp; rfl)); intro gb518 hg w31 hbox hb; replace HO512 := Aside0.mk (Kd.V_below (Kd.V_elderB (vk HO512.out) gb518 (Nat.le_of_eq hg.symm)) hb); replace HO516 := Aside0.mk (Kd.V_below (Kd.V_elderB (vk HO516.out) gb518 (Nat.le_of_eq hg.symm)) hb); have BK518 := Aside0.mk (hbox); have GE518 := Aside0.mk (ge (w := w) hg); replace HB := Aside0.mk (below_step bl hb); clear hb hbox hg) | ((with_reducible refine gate_dst (N := 6) rfl ?_); refine box_event ?hg (N := 6) ?hd (cs := #[.bool false, .slice none 0 0]) (t := 43) ?hr ?_; (case hd => rfl); (case hg => rfl); (case hr => first | (go_simp; done) | (go_simp; rfl)); intro gb519 hg w32 hbox hb; replace HO512 := Aside0.mk (Kd.V_below (Kd.V_elderB (vk HO512.out) gb519 (Nat.le_of_eq hg.symm)) hb); replace HO516 := Aside0.mk (Kd.V_below (Kd.V_elderB (vk HO516.out) gb519 (Nat.le_of_eq hg.symm)) hb); have BK519 := Aside0.mk (hbox); have GE519 := Aside0.mk (ge (w := w) hg); replace HB := Aside0.mk (below_step bl hb); have NB518_519 := Aside0.mk (nl hg (bk BK518.out)); have NB519_518 := Aside0.mk (ng hg (bk BK518.out)); replace BK518 := Aside0.mk (bb BK518.out hb); clear hb hbox hg; have hnc33 := NB519_518.out; obtain ⟨hcz34_0, hcz34_1, hfz34_0, hfz34_1⟩ := bz2 BK518.out; obtain ⟨Ao35, co35, eo35⟩ := Kd.V_slice HO512.out; subst eo35; obtain ⟨hcz36_0, hcz36_1, hfz36_0, hfz36_1⟩ := bz2 BK519.out; obtain ⟨Ao37, co37, eo37⟩ := Kd.V_slice HO516.out; subst eo37) | ((with_reducible refine gate_callee (f := 36) rfl ?_); refine goesL_ (some 28) rfl rfl Try.func36 (by kernel_rfl) rfl #[.string a0] rfl (by (try simp only [List.map_toArray, List.map_cons, List.map_nil]); first | done | rfl | (simp only [List.length_drop, List.length_take]; rfl)) ?_; (with_reducible refine (maskref4_DecOf.calls k a0 t520 t521 _ A7.out).mono ?_); rintro e w38 ⟨v522, rfl, ho0, hb⟩; refine ⟨_, rfl, ?_⟩; replace HO512 := Aside0.mk (Kd.V_below (by (with_reducible repeat (first | apply Kd.V_alloc | apply Kd.V_drewN | apply Kd.V_drew)); exact (Kd.V_mono (Kd.V_mono (Kd.V_far (p := ⟨gb519, 1, none⟩) (Kd.V_far (p := ⟨gb519, 0, none⟩) (Kd.V_far (p := ⟨gb518, 1, none⟩) (Kd.V_far (p := ⟨gb518, 0, none⟩) (Kd.V_mono (Kd.V_mono HO512.out (fun k_ hk => (⟨hk, hk.1.2⟩ : _ ∧ k_ ≠ gb518))) (fun k_ hk => (⟨hk, hk.1.2⟩ : _ ∧ k_ ≠ gb519))) (fun _ hk => hk.1.2) (.bool t509)) (fun _ hk => hk.1.2) (.slice Ao35 t510.length co35)) (fun _ hk => hk.2) (.bool t513)) (fun _ hk => hk.2) (.slice Ao37 t514.length co37)) (fun _ h_ => h_.1)) (fun _ h_ => h_.1))) hb); replace HO516 := Aside0.mk (Kd.V_below (by (with_reducible repeat (first | apply Kd.V_alloc | apply Kd.V_drewN | apply Kd.V_drew)); exact (Kd.V_mono (Kd.V_mono (Kd.V_far (p := ⟨gb519, 1, none⟩) (Kd.V_far (p := ⟨gb519, 0, none⟩) (Kd.V_far (p := ⟨gb518, 1, none⟩) (Kd.V_far (p := ⟨gb518, 0, none⟩) (Kd.V_mono (Kd.V_mono HO516.out (fun k_ hk => (⟨hk, hk.1.2⟩ : _ ∧ k_ ≠ gb518))) (fun k_ hk => (⟨hk, hk.1.2⟩ : _ ∧ k_ ≠ gb519))) (fun _ hk => hk.1.2) (.bool t509)) (fun _ hk => hk.1.2) (.slice Ao35 t510.length co35)) (fun _ hk => hk.2) (.bool t513)) (fun _ hk => hk.2) (.slice Ao37 t514.length co37)) (fun _ h_ => h_.1)) (fun _ h_ => h_.1))) hb); have HO523 := Aside0.mk (Kd.V_lower (Kd.V_mono (ok' := fun k_ => k_ ≠ gb518 ∧ k_ ≠ gb519) ho0 (fun k_ hk_ => ⟨(Kd.freshB (g := gb518) (o := .cells #[.bool t509, .slice Ao35 t510.length co35] 43 (0, 0)) (by (with_reducible repeat (first | refine blk_drewN ?_ _ | refine blk_drew ?_ | refine blk_alloc ?_ _)); refine blk_far ?_ NB518_519.out _; (with_reducible repeat (first | refine blk_drewN ?_ _ | refine blk_drew ?_ | refine blk_alloc ?_ _)); refine blk_far ?_ NB518_519.out _; (with_reducible repeat (first | refine blk_drewN ?_ _ | refine blk_drew ?_ | refine blk_alloc ?_ _)); refine blk_put (cs := #[.bool t509, .slice none 0 0]) ?_ 1 _ rfl; (with_reducible repeat (first | refine blk_drewN ?_ _ | refine blk_drew ?_ | refine blk_alloc ?_ _)); refine blk_put (cs := #[.bool false, .slice none 0 0]) ?_ 0 _ rfl; (with_reducible repeat (first | refine blk_drewN ?_ _ | refine blk_drew ?_ | refine blk_alloc ?_ _)); exact BK518.out) k_ hk_), (Kd.freshB (g := gb519) (o := .cells #[.bool t513, .slice Ao37 t514.length co37] 43 (0, 0)) (by (with_reducible repeat (first | refine blk_drewN ?_ _ | refine blk_drew ?_ | refine blk_alloc ?_ _)); refine blk_put (cs := #[.bool t513, .slice none 0 0]) ?_ 1 _ rfl; (with_reducible repeat (first | refine blk_drewN ?_ _ | refine blk_drew ?_ | refine blk_alloc ?_ _)); refine blk_put (cs := #[.bool false, .slice none 0 0]) ?_ 0 _ rfl; (with_reducible repeat (first | refine blk_drewN ?_ _ | refine blk_drew ?_ | refine blk_alloc ?_ _)); refine blk_far ?_ NB519_518.out _; (with_reducible repeat (first | refine blk_drewN ?_ _ | refine blk_drew ?_ | refine blk_alloc ?_ _)); refine blk_far ?_ NB519_518.out _; (with_reducible repeat (first | refine blk_drewN ?_ _ | refine blk_drew ?_ | refine blk_alloc ?_ _)); exact BK519.out) k_ hk_)⟩)) (below_size bl)); replace BK518 := Aside0.mk (blk_below (g := gb518) (o := .cells #[.bool t509, .slice Ao35 t510.length co35] 43 (0, 0)) (by (with_reducible repeat (first | refine blk_drewN ?_ _ | refine blk_drew ?_ | refine blk_alloc ?_ _)); refine blk_far ?_ NB518_519.out _; (with_reducible repeat (first | refine blk_drewN ?_ _ | refine blk_drew ?_ | refine blk_alloc ?_ _)); refine blk_far ?_ NB518_519.out _; (with_reducible repeat (first | refine blk_drewN ?_ _ | refine blk_drew ?_ | refine blk_alloc ?_ _)); refine blk_put (cs := #[.bool t509, .slice none 0 0]) ?_ 1 _ rfl; (with_reducible repeat (first | refine blk_drewN ?_ _ | refine blk_drew ?_ | refine blk_alloc ?_ _)); refine blk_put (cs := #[.bool false, .slice none 0 0]) ?_ 0 _ rfl; (with_reducible repeat (first | refine blk_drewN ?_ _ | refine blk_drew ?_ | refine blk_alloc ?_ _)); exact BK518.out) hb); replace BK519 := Aside0.mk (blk_below (g := gb519) (o := .cells #[.bool t513, .slice Ao37 t514.length co37] 43 (0, 0)) (by (with_reducible repeat (first | refine blk_drewN ?_ _ | refine blk_drew ?_ | refine blk_alloc ?_ _)); refine blk_put (cs := #[.bool t513, .slice none 0 0]) ?_ 1 _ rfl; (with_reducible repeat (first | refine blk_drewN ?_ _ | refine blk_drew ?_ | refine blk_alloc ?_ _)); refine blk_put (cs := #[.bool false, .slice none 0 0]) ?_ 0 _ rfl; (with_reducible repeat (first | refine blk_drewN ?_ _ | refine blk_drew ?_ | refine blk_alloc ?_ _)); refine blk_far ?_ NB519_518.out _; (with_reducible repeat (first | refine blk_drewN ?_ _ | refine blk_drew ?_ | refine blk_alloc ?_ _)); refine blk_far ?_ NB519_518.out _; (with_reducible repeat (first | refine blk_drewN ?_ _ | refine blk_drew ?_ | refine blk_alloc ?_ _)); exact BK519.out) hb); replace HB := Aside0.mk (below_step bl hb); (try clear hb); (try clear ho0)) | ((with_reducible refine gate_callee (f := 36) rfl ?_); refine goesL_ (some 30) rfl rfl Try.func36 (by kernel_rfl) rfl #[.string a1] rfl (by (try simp only [List.map_toArray, List.map_cons, List.map_nil]); first | done | rfl | (simp only [List.length_drop, List.length_take]; rfl)) ?_; (with_reducible refine (maskref4_DecOf.calls k a1 t524 t525 _ A8.out).mono ?_); rintro e w39 ⟨v526, rfl, ho0, hb⟩; refine ⟨_, rfl, ?_⟩; replace HO512 := Aside0.mk (vb HO512.out hb); replace HO516 := Aside0.mk (vb HO516.out hb); replace HO523 := Aside0.mk (vb HO523.out hb); have HO527 := Aside0.mk (Kd.V_lower (Kd.V_mono (ok' := fun k_ => k_ ≠ gb518 ∧ k_ ≠ gb519) ho0 (fun k_ hk_ => ⟨(Kd.freshB (g := gb518) (o := .cells #[.bool t509, .slice Ao35 t510.length co35] 43 (0, 0)) (bk BK518.out) k_ hk_), (Kd.freshB (g := gb519) (o := .cells #[.bool t513, .slice Ao37 t514.length co37] 43 (0, 0)) (bk BK519.out) k_ hk_)⟩)) (below_size bl)); replace BK518 := Aside0.mk (bb BK518.out hb); replace BK519 := Aside0.mk (bb BK519.out hb); replace HB := Aside0.mk (below_step bl hb); (try clear hb); (try clear ho0)) | ((with_reducible refine gate_dst (N := 8) rfl ?_); refine box_event ?hg (N := 8) ?hd (cs := #[.bool false, .slice none 0 0]) (t := 36) ?hr ?_; (case hd => rfl); (case hg => rfl); (case hr => first | (go_simp; done) | (go_simp; rfl)); intro gb528 hg w40 hbox hb; replace HO512 := Aside0.mk (Kd.V_below (Kd.V_elderB (vk HO512.out) gb528 (Nat.le_of_eq hg.symm)) hb); replace HO516 := Aside0.mk (Kd.V_below (Kd.V_elderB (vk HO516.out) gb528 (Nat.le_of_eq hg.symm)) hb); replace HO523 := Aside0.mk (Kd.V_below (Kd.V_elderB (vk HO523.out) gb528 (Nat.le_of_eq hg.symm)) hb); replace HO527 := Aside0.mk (Kd.V_below (Kd.V_elderB (vk HO527.out) gb528 (Nat.le_of_eq hg.symm)) hb); have BK528 := Aside0.mk (hbox); have GE528 := Aside0.mk (ge (w := w) hg); replace HB := Aside0.mk (below_step bl hb); have NB518_528 := Aside0.mk (nl hg (bk BK518.out)); have NB528_518 := Aside0.mk (ng hg (bk BK518.out)); replace BK518 := Aside0.mk (bb BK518.out hb); have NB519_528 := Aside0.mk (nl hg (bk BK519.out)); have NB528_519 := Aside0.mk (ng hg (bk BK519.out)); replace BK519 := Aside0.mk (bb BK519.out hb); clear hb hbox hg) | ((with_reducible refine gate_dst (N := 9) rfl ?_); refine box_event ?hg (N := 9) ?hd (cs := #[.bool false, .slice none 0 0]) (t := 36) ?hr ?_; (case hd => rfl); (case hg => rfl); (case hr => first | (go_simp; done) | (go_simp; rfl)); intro gb529 hg w41 hbox hb; replace HO512 := Aside0.mk (Kd.V_below (Kd.V_elderB (vk HO512.out) gb529 (Nat.le_of_eq hg.symm)) hb); replace HO516 := Aside0.mk (Kd.V_below (Kd.V_elderB (vk HO516.out) gb529 (Nat.le_of_eq hg.symm)) hb); replace HO523 := Aside0.mk (Kd.V_below (Kd.V_elderB (vk HO523.out) gb529 (Nat.le_of_eq hg.symm)) hb); replace HO527 := Aside0.mk (Kd.V_below (Kd.V_elderB (vk HO527.out) gb529 (Nat.le_of_eq hg.symm)) hb); have BK529 := Aside0.mk (hbox); have GE529 := Aside0.mk (ge (w := w) hg); replace HB := Aside0.mk (below_step bl hb); have NB518_529 := Aside0.mk (nl hg (bk BK518.out)); have NB529_518 := Aside0.mk (ng hg (bk BK518.out)); replace BK518 := Aside0.mk (bb BK518.out hb); have NB519_529 := Aside0.mk (nl hg (bk BK519.out)); have NB529_519 := Aside0.mk (ng hg (bk BK519.out)); replace BK519 := Aside0.mk (bb BK519.out hb); have NB528_529 := Aside0.mk (nl hg (bk BK528.out)); have NB529_528 := Aside0.mk (ng hg (bk BK528.out)); replace BK528 := Aside0.mk (bb BK528.out hb); clear hb hbox hg; have hnc42 := NB518_528.out; have hnb43 := NB528_519.out; have hnc43 := NB519_528.out; have hnb44 := NB528_529.out; have hnc44 := NB529_528.out; obtain ⟨hcz45_0, hcz45_1, hfz45_0, hfz45_1⟩ := bz2 BK528.out; obtain ⟨Ao46, co46, eo46⟩ := Kd.V_slice HO523.out; subst eo46; have hnb47 := NB529_518.out; have hnc47 := NB518_529.out; have hnb48 := NB529_519.out; have hnc48 := NB519_529.out; obtain ⟨hcz49_0, hcz49_1, hfz49_0, hfz49_1⟩ := bz2 BK529.out; obtain ⟨Ao50, co50, eo50⟩ := Kd.V_slice HO527.out; subst eo50; obtain ⟨hcz51_0, hcz51_1, hfz51_0, hfz51_1⟩ := bz2 BK518.out; obtain ⟨hcz52_0, hcz52_1, hfz52_0, hfz52_1⟩ := bz2 BK519.out) | ((with_reducible refine gate_callee (f := 29) rfl ?_); refine goesL_ (some 34) rfl rfl Try.func29 (by kernel_rfl) rfl #[.agg #[.bool t509, .slice Ao35 t510.length co35], .agg #[.bool t513, .slice Ao37 t514.length co37]] rfl (by (try simp only [List.map_toArray, List.map_cons, List.map_nil]); first | done | rfl | (simp only [List.length_drop, List.length_take]; rfl)) ?_; (with_reducible refine (exact_Add.calls k t509 _ _ t510 t513 _ _ t514 t530 t531 t534 _ ?side1 ?side2 ?side3 ?side4 A9.out).mono ?_); (case side1 => refine (Kd.V_reads' (e := 97) (base := w.heap.size) (ok := fun k_ => ((((True ∧ k_ ≠ gb518) ∧ k_ ≠ gb519) ∧ k_ ≠ gb528) ∧ k_ ≠ gb529)) (n := t510.length) (c := co35) ?_).2.2; exact (by (with_reducible repeat (first | apply Kd.V_alloc | apply Kd.V_drewN | apply Kd.V_drew)); exact (Kd.V_mono (Kd.V_mono (Kd.V_far (p := ⟨gb529, 1, none⟩) (Kd.V_far (p := ⟨gb529, 0, none⟩) (Kd.V_far (p := ⟨gb528, 1, none⟩) (Kd.V_far (p := ⟨gb528, 0, none⟩) (Kd.V_mono (Kd.V_mono HO512.out (fun k_ hk => (⟨hk, hk.1.2⟩ : _ ∧ k_ ≠ gb528))) (fun k_ hk => (⟨hk, hk.1.2⟩ : _ ∧ k_ ≠ gb529))) (fun _ hk => hk.1.2) (.bool t520)) (fun _ hk => hk.1.2) (.slice Ao46 t521.length co46)) (fun _ hk => hk.2) (.bool t524)) (fun _ hk => hk.2) (.slice Ao50 t525.length co50)) (fun _ h_ => h_.1)) (fun _ h_ => h_.1)))); (case side2 => exact (Kd.V_reads' HO512.out).2.1); (case side3 => refine (Kd.V_reads' (e := 97) (base := w.heap.size) (ok := fun k_ => ((((True ∧ k_ ≠ gb518) ∧ k_ ≠ gb519) ∧ k_ ≠ gb528) ∧ k_ ≠ gb529)) (n := t514.length) (c := co37) ?_).2.2; exact (by (with_reducible repeat (first | apply Kd.V_alloc | apply Kd.V_drewN | apply Kd.V_drew)); exact (Kd.V_mono (Kd.V_mono (Kd.V_far (p := ⟨gb529, 1, none⟩) (Kd.V_far (p := ⟨gb529, 0, none⟩) (Kd.V_far (p := ⟨gb528, 1, none⟩) (Kd.V_far (p := ⟨gb528, 0, none⟩) (Kd.V_mono (Kd.V_mono HO516.out (fun k_ hk => (⟨hk, hk.1.2⟩ : _ ∧ k_ ≠ gb528))) (fun k_ hk => (⟨hk, hk.1.2⟩ : _ ∧ k_ ≠ gb529))) (fun _ hk => hk.1.2) (.bool t520)) (fun _ hk => hk.1.2) (.slice Ao46 t521.length co46)) (fun _ hk => hk.2) (.bool t524)) (fun _ hk => hk.2) (.slice Ao50 t525.length co50)) (fun _ h_ => h_.1)) (fun _ h_ => h_.1)))); (case side4 => exact (Kd.V_reads' HO516.out).2.1); rintro e w53 ⟨v532, rfl, ho0, hb⟩; refine ⟨_, rfl, ?_⟩; replace HO512 := Aside0.mk (Kd.V_below (by (with_reducible repeat (first | apply Kd.V_alloc | apply Kd.V_drewN | apply Kd.V_drew)); exact (Kd.V_mono (Kd.V_mono (Kd.V_far (p := ⟨gb529, 1, none⟩) (Kd.V_far (p := ⟨gb529, 0, none⟩) (Kd.V_far (p := ⟨gb528, 1, none⟩) (Kd.V_far (p := ⟨gb528, 0, none⟩) (Kd.V_mono (Kd.V_mono HO512.out (fun k_ hk => (⟨hk, hk.1.2⟩ : _ ∧ k_ ≠ gb528))) (fun k_ hk => (⟨hk, hk.1.2⟩ : _ ∧ k_ ≠ gb529))) (fun _ hk => hk.1.2) (.bool t520)) (fun _ hk => hk.1.2) (.slice Ao46 t521.length co46)) (fun _ hk => hk.2) (.bool t524)) (fun _ hk => hk.2) (.slice Ao50 t525.length co50)) (fun _ h_ => h_.1)) (fun _ h_ => h_.1))) hb); replace HO516 := Aside0.mk (Kd.V_below (by (with_reducible repeat (first | apply Kd.V_alloc | apply Kd.V_drewN | apply Kd.V_drew)); exact (Kd.V_mono (Kd.V_mono (Kd.V_far (p := ⟨gb529, 1, none⟩) (Kd.V_far (p := ⟨gb529, 0, none⟩) (Kd.V_far (p := ⟨gb528, 1, none⟩) (Kd.V_far (p := ⟨gb528, 0, none⟩) (Kd.V_mono (Kd.V_mono HO516.out (fun k_ hk => (⟨hk, hk.1.2⟩ : _ ∧ k_ ≠ gb528))) (fun k_ hk => (⟨hk, hk.1.2⟩ : _ ∧ k_ ≠ gb529))) (fun _ hk => hk.1.2) (.bool t520)) (fun _ hk => hk.1.2) (.slice Ao46 t521.length co46)) (fun _ hk => hk.2) (.bool t524)) (fun _ hk => hk.2) (.slice Ao50 t525.length co50)) (fun _ h_ => h_.1)) (fun _ h_ => h_.1))) hb); replace HO523 := Aside0.mk (Kd.V_below (by (with_reducible repeat (first | apply Kd.V_alloc | apply Kd.V_drewN | apply Kd.V_drew)); exact (Kd.V_mono (Kd.V_mono (Kd.V_far (p := ⟨gb529, 1, none⟩) (Kd.V_far (p := ⟨gb529, 0, none⟩) (Kd.V_far (p := ⟨gb528, 1, none⟩) (Kd.V_far (p := ⟨gb528, 0, none⟩) (Kd.V_mono (Kd.V_mono HO523.out (fun k_ hk => (⟨hk, hk.1.2⟩ : _ ∧ k_ ≠ gb528))) (fun k_ hk => (⟨hk, hk.1.2⟩ : _ ∧ k_ ≠ gb529))) (fun _ hk => hk.1.2) (.bool t520)) (fun _ hk => hk.1.2) (.slice Ao46 t521.length co46)) (fun _ hk => hk.2) (.bool t524)) (fun _ hk => hk.2) (.slice Ao50 t525.length co50)) (fun _ h_ => h_.1)) (fun _ h_ => h_.1))) hb); replace HO527 := Aside0.mk (Kd.V_below (by (with_reducible repeat (first | apply Kd.V_alloc | apply Kd.V_drewN | apply Kd.V_drew)); exact (Kd.V_mono (Kd.V_mono (Kd.V_far (p := ⟨gb529, 1, none⟩) (Kd.V_far (p := ⟨gb529, 0, none⟩) (Kd.V_far (p := ⟨gb528, 1, none⟩) (Kd.V_far (p := ⟨gb528, 0, none⟩) (Kd.V_mono (Kd.V_mono HO527.out (fun k_ hk => (⟨hk, hk.1.2⟩ : _ ∧ k_ ≠ gb528))) (fun k_ hk => (⟨hk, hk.1.2⟩ : _ ∧ k_ ≠ gb529))) (fun _ hk => hk.1.2) (.bool t520)) (fun _ hk => hk.1.2) (.slice Ao46 t521.length co46)) (fun _ hk => hk.2) (.bool t524)) (fun _ hk => hk.2) (.slice Ao50 t525.length co50)) (fun _ h_ => h_.1)) (fun _ h_ => h_.1))) hb); have HO533 := Aside0.mk (Kd.V_lower (Kd.V_mono (ok' := fun k_ => k_ ≠ gb518 ∧ k_ ≠ gb519 ∧ k_ ≠ gb528 ∧ k_ ≠ gb529) ho0 (fun k_ hk_ => ⟨(Kd.freshB (g := gb518) (o := .cells #[.bool t509, .slice Ao35 t510.length co35] 43 (0, 0)) (bf BK518.out) k_ hk_), (Kd.freshB (g := gb519) (o := .cells #[.bool t513, .slice Ao37 t514.length co37] 43 (0, 0)) (bf BK519.out) k_ hk_), (Kd.freshB (g := gb528) (o := .cells #[.bool t520, .slice Ao46 t521.length co46] 36 (0, 0)) (by (with_reducible repeat (first | refine blk_drewN ?_ _ | refine blk_drew ?_ | refine blk_alloc ?_ _)); refine blk_far ?_ NB528_529.out _; (with_reducible repeat (first | refine blk_drewN ?_ _ | refine blk_drew ?_ | refine blk_alloc ?_ _)); refine blk_far ?_ NB528_529.out _; (with_reducible repeat (first | refine blk_drewN ?_ _ | refine blk_drew ?_ | refine blk_alloc ?_ _)); refine blk_put (cs := #[.bool t520, .slice none 0 0]) ?_ 1 _ rfl; (with_reducible repeat (first | refine blk_drewN ?_ _ | refine blk_drew ?_ | refine blk_alloc ?_ _)); refine blk_put (cs := #[.bool false, .slice none 0 0]) ?_ 0 _ rfl; (with_reducible repeat (first | refine blk_drewN ?_ _ | refine blk_drew ?_ | refine blk_alloc ?_ _)); exact BK528.out) k_ hk_), (Kd.freshB (g := gb529) (o := .cells #[.bool t524, .slice Ao50 t525.length co50] 36 (0, 0)) (by (with_reducible repeat (first | refine blk_drewN ?_ _ | refine blk_drew ?_ | refine blk_alloc ?_ _)); refine blk_put (cs := #[.bool t524, .slice none 0 0]) ?_ 1 _ rfl; (with_reducible repeat (first | refine blk_drewN ?_ _ | refine blk_drew ?_ | refine blk_alloc ?_ _)); refine blk_put (cs := #[.bool false, .slice none 0 0]) ?_ 0 _ rfl; (with_reducible repeat (first | refine blk_drewN ?_ _ | refine blk_drew ?_ | refine blk_alloc ?_ _)); refine blk_far ?_ NB529_528.out _; (with_reducible repeat (first | refine blk_drewN ?_ _ | refine blk_drew ?_ | refine blk_alloc ?_ _)); refine blk_far ?_ NB529_528.out _; (with_reducible repeat (first | refine blk_drewN ?_ _ | refine blk_drew ?_ | refine blk_alloc ?_ _)); exact BK529.out) k_ hk_)⟩)) (below_size bl)); replace BK518 := Aside0.mk (blk_below (bf BK518.out) hb); replace BK519 := Aside0.mk (blk_below (bf BK519.out) hb); replace BK528 := Aside0.mk (blk_below (g := gb528) (o := .cells #[.bool t520, .slice Ao46 t521.length co46] 36 (0, 0)) (by (with_reducible repeat (first | refine blk_drewN ?_ _ | refine blk_drew ?_ | refine blk_alloc ?_ _)); refine blk_far ?_ NB528_529.out _; (with_reducible repeat (first | refine blk_drewN ?_ _ | refine blk_drew ?_ | refine blk_alloc ?_ _)); refine blk_far ?_ NB528_529.out _; (with_reducible repeat (first | refine blk_drewN ?_ _ | refine blk_drew ?_ | refine blk_alloc ?_ _)); refine blk_put (cs := #[.bool t520, .slice none 0 0]) ?_ 1 _ rfl; (with_reducible repeat (first | refine blk_drewN ?_ _ | refine blk_drew ?_ | refine blk_alloc ?_ _)); refine blk_put (cs := #[.bool false, .slice none 0 0]) ?_ 0 _ rfl; (with_reducible repeat (first | refine blk_drewN ?_ _ | refine blk_drew ?_ | refine blk_alloc ?_ _)); exact BK528.out) hb); replace BK529 := Aside0.mk (blk_below (g := gb529) (o := .cells #[.bool t524, .slice Ao50 t525.length co50] 36 (0, 0)) (by (with_reducible repeat (first | refine blk_drewN ?_ _ | refine blk_drew ?_ | refine blk_alloc ?_ _)); refine blk_put (cs := #[.bool t524, .slice none 0 0]) ?_ 1 _ rfl; (with_reducible repeat (first | refine blk_drewN ?_ _ | refine blk_drew ?_ | refine blk_alloc ?_ _)); refine blk_put (cs := #[.bool false, .slice none 0 0]) ?_ 0 _ rfl; (with_reducible repeat (first | refine blk_drewN ?_ _ | refine blk_drew ?_ | refine blk_alloc ?_ _)); refine blk_far ?_ NB529_528.out _; (with_reducible repeat (first | refine blk_drewN ?_ _ | refine blk_drew ?_ | refine blk_alloc ?_ _)); refine blk_far ?_ NB529_528.out _; (with_reducible repeat (first | refine blk_drewN ?_ _ | refine blk_drew ?_ | refine blk_alloc ?_ _)); exact BK529.out) hb); replace HB := Aside0.mk (below_step bl hb); (try clear hb); (try clear ho0)) | ((with_reducible refine gate_dst (N := 10) rfl ?_); refine box_event ?hg (N := 10) ?hd (cs := #[.bool false, .slice none 0 0]) (t := 43) ?hr ?_; (case hd => rfl); (case hg => rfl); (case hr => first | (go_simp; done) | (go_simp; rfl)); intro gb535 hg w54 hbox hb; replace HO512 := Aside0.mk (Kd.V_below (Kd.V_elderB (vk HO512.out) gb535 (Nat.le_of_eq hg.symm)) hb); replace HO516 := Aside0.mk (Kd.V_below (Kd.V_elderB (vk HO516.out) gb535 (Nat.le_of_eq hg.symm)) hb); replace HO523 := Aside0.mk (Kd.V_below (Kd.V_elderB (vk HO523.out) gb535 (Nat.le_of_eq hg.symm)) hb); replace HO527 := Aside0.mk (Kd.V_below (Kd.V_elderB (vk HO527.out) gb535 (Nat.le_of_eq hg.symm)) hb); replace HO533 := Aside0.mk (Kd.V_below (Kd.V_elderB (vk HO533.out) gb535 (Nat.le_of_eq hg.symm)) hb); have BK535 := Aside0.mk (hbox); have GE535 := Aside0.mk (ge (w := w) hg); replace HB := Aside0.mk (below_step bl hb); have NB518_535 := Aside0.mk (nl hg (bk BK518.out)); have NB535_518 := Aside0.mk (ng hg (bk BK518.out)); replace BK518 := Aside0.mk (bb BK518.out hb); have NB519_535 := Aside0.mk (nl hg (bk BK519.out)); have NB535_519 := Aside0.mk (ng hg (bk BK519.out)); replace BK519 := Aside0.mk (bb BK519.out hb); have NB528_535 := Aside0.mk (nl hg (bk BK528.out)); have NB535_528 := Aside0.mk (ng hg (bk BK528.out)); replace BK528 := Aside0.mk (bb BK528.out hb); have NB529_535 := Aside0.mk (nl hg (bk BK529.out)); have NB535_529 := Aside0.mk (ng hg (bk BK529.out)); replace BK529 := Aside0.mk (bb BK529.out hb); clear hb hbox hg; obtain ⟨hcz59_0, hcz59_1, hfz59_0, hfz59_1⟩ := bz2 BK535.out; obtain ⟨Ao60, co60, eo60⟩ := Kd.V_slice HO533.out; subst eo60) | ((with_reducible refine gate_store (t := 43) (p := 10) rfl ?_); refine store_event (t := 43) (p := 10) (v := ?vo_w61) (w1 := ((w54.setCell ⟨gb535, 0, none⟩ (.bool t530)).setCell ⟨gb535, 1, none⟩ (.slice Ao60 t531.length co60))) ?hg ?ho ?hn ?hr ?_; (case ho => rfl); (case hg => rfl); (case hn => rfl); (case hr => first | (go_simp; done) | (go_simp; rfl)); intro w61 hw; have n0_ : Aside0 (Kd.V (Kd.int .u32) 97 w61 w.heap.size (fun k_ => k_ ≠ gb518 ∧ k_ ≠ gb519 ∧ k_ ≠ gb528 ∧ k_ ≠ gb529 ∧ k_ ≠ gb535) (.slice Ao35 t510.length co35) t510) := ⟨(by rw [hw]; exact (by (with_reducible repeat (first | apply Kd.V_alloc | apply Kd.V_drewN | apply Kd.V_drew)); exact Kd.V_mono (Kd.V_far (p := ⟨gb535, 1, none⟩) (Kd.V_far (p := ⟨gb535, 0, none⟩) (Kd.V_mono HO512.out (fun k_ hk => (⟨hk, hk.2⟩ : _ ∧ k_ ≠ gb535))) (fun _ hk => hk.2) (.bool t530)) (fun _ hk => hk.2) (.slice Ao60 t531.length co60)) (fun _ hk => ⟨hk.1.1.1.1.1.2, ⟨hk.1.1.1.1.2, ⟨hk.1.1.1.2, ⟨hk.1.1.2, hk.1.2⟩⟩⟩⟩)))⟩; have n1_ : Aside0 (Kd.V (Kd.int .u32) 97 w61 w.heap.size (fun k_ => k_ ≠ gb518 ∧ k_ ≠ gb519 ∧ k_ ≠ gb528 ∧ k_ ≠ gb529 ∧ k_ ≠ gb535) (.slice Ao37 t514.length co37) t514) := ⟨(by rw [hw]; exact (by (with_reducible repeat (first | apply Kd.V_alloc | apply Kd.V_drewN | apply Kd.V_drew)); exact Kd.V_mono (Kd.V_far (p := ⟨gb535, 1, none⟩) (Kd.V_far (p := ⟨gb535, 0, none⟩) (Kd.V_mono HO516.out (fun k_ hk => (⟨hk, hk.2⟩ : _ ∧ k_ ≠ gb535))) (fun _ hk => hk.2) (.bool t530)) (fun _ hk => hk.2) (.slice Ao60 t531.length co60)) (fun _ hk => ⟨hk.1.1.1.1.1.2, ⟨hk.1.1.1.1.2, ⟨hk.1.1.1.2, ⟨hk.1.1.2, hk.1.2⟩⟩⟩⟩)))⟩; have n2_ : Aside0 (Kd.V (Kd.int .i64) 3 w61 w.heap.size (fun k_ => k_ ≠ gb518 ∧ k_ ≠ gb519 ∧ k_ ≠ gb528 ∧ k_ ≠ gb529 ∧ k_ ≠ gb535) (.slice Ao46 t521.length co46) t521) := ⟨(by rw [hw]; exact (by (with_reducible repeat (first | apply Kd.V_alloc | apply Kd.V_drewN | apply Kd.V_drew)); exact Kd.V_mono (Kd.V_far (p := ⟨gb535, 1, none⟩) (Kd.V_far (p := ⟨gb535, 0, none⟩) (Kd.V_mono HO523.out (fun k_ hk => (⟨hk, hk.2⟩ : _ ∧ k_ ≠ gb535))) (fun _ hk => hk.2) (.bool t530)) (fun _ hk => hk.2) (.slice Ao60 t531.length co60)) (fun _ hk => ⟨hk.1.1.1.1.1, ⟨hk.1.1.1.1.2, ⟨hk.1.1.1.2, ⟨hk.1.1.2, hk.1.2⟩⟩⟩⟩)))⟩; have n3_ : Aside0 (Kd.V (Kd.int .i64) 3 w61 w.heap.size (fun k_ => k_ ≠ gb518 ∧ k_ ≠ gb519 ∧ k_ ≠ gb528 ∧ k_ ≠ gb529 ∧ k_ ≠ gb535) (.slice Ao50 t525.length co50) t525) := ⟨(by rw [hw]; exact (by (with_reducible repeat (first | apply Kd.V_alloc | apply Kd.V_drewN | apply Kd.V_drew)); exact Kd.V_mono (Kd.V_far (p := ⟨gb535, 1, none⟩) (Kd.V_far (p := ⟨gb535, 0, none⟩) (Kd.V_mono HO527.out (fun k_ hk => (⟨hk, hk.2⟩ : _ ∧ k_ ≠ gb535))) (fun _ hk => hk.2) (.bool t530)) (fun _ hk => hk.2) (.slice Ao60 t531.length co60)) (fun _ hk => ⟨hk.1.1.1.1.1, ⟨hk.1.1.1.1.2, ⟨hk.1.1.1.2, ⟨hk.1.1.2, hk.1.2⟩⟩⟩⟩)))⟩; have n4_ : Aside0 (Kd.V (Kd.int .u32) 97 w61 w.heap.size (fun k_ => k_ ≠ gb518 ∧ k_ ≠ gb519 ∧ k_ ≠ gb528 ∧ k_ ≠ gb529 ∧ k_ ≠ gb535) (.slice Ao60 t531.length co60) t531) := ⟨(by rw [hw]; exact (by (with_reducible repeat (first | apply Kd.V_alloc | apply Kd.V_drewN | apply Kd.V_drew)); exact Kd.V_mono (Kd.V_far (p := ⟨gb535, 1, none⟩) (Kd.V_far (p := ⟨gb535, 0, none⟩) (Kd.V_mono HO533.out (fun k_ hk => (⟨hk, hk.2⟩ : _ ∧ k_ ≠ gb535))) (fun _ hk => hk.2) (.bool t530)) (fun _ hk => hk.2) (.slice Ao60 t531.length co60)) (fun _ hk => ⟨hk.1.1.1, ⟨hk.1.1.2.1, ⟨hk.1.1.2.2.1, ⟨hk.1.1.2.2.2, hk.1.2⟩⟩⟩⟩)))⟩; have n5_ : Aside0 (w61.heap[gb518]? = some (.cells #[.bool t509, .slice Ao35 t510.length co35] 43 (0, 0))) := ⟨(by rw [hw]; exact (bf BK518.out))⟩; have n6_ : Aside0 (w61.heap[gb519]? = some (.cells #[.bool t513, .slice Ao37 t514.length co37] 43 (0, 0))) := ⟨(by rw [hw]; exact (bf BK519.out))⟩; have n7_ : Aside0 (w61.heap[gb528]? = some (.cells #[.bool t520, .slice Ao46 t521.length co46] 36 (0, 0))) := ⟨(by rw [hw]; exact (bf BK528.out))⟩; have n8_ : Aside0 (w61.heap[gb529]? = some (.cells #[.bool t524, .slice Ao50 t525.length co50] 36 (0, 0))) := ⟨(by rw [hw]; exact (bf BK529.out))⟩; have n9_ : Aside0 (w61.heap[gb535]? = some (.cells #[.bool t530, .slice Ao60 t531.length co60] 43 (0, 0))) := ⟨(by rw [hw]; exact (by (with_reducible repeat (first | refine blk_drewN ?_ _ | refine blk_drew ?_ | refine blk_alloc ?_ _)); refine blk_put (cs := #[.bool t530, .slice none 0 0]) ?_ 1 _ rfl; (with_reducible repeat (first | refine blk_drewN ?_ _ | refine blk_drew ?_ | refine blk_alloc ?_ _)); refine blk_put (cs := #[.bool false, .slice none 0 0]) ?_ 0 _ rfl; (with_reducible repeat (first | refine blk_drewN ?_ _ | refine blk_drew ?_ | refine blk_alloc ?_ _)); exact BK535.out))⟩; have n10_ : Aside0 (Below w.heap.size w w61) := ⟨(by rw [hw]; exact bl)⟩; clear hw; clear HO512; clear HO516; clear HO523; clear HO527; clear HO533; clear BK518; clear BK519; clear BK528; clear BK529; clear BK535; clear HB; have HO512 := n0_; have HO516 := n1_; have HO523 := n2_; have HO527 := n3_; have HO533 := n4_; have BK518 := n5_; have BK519 := n6_; have BK528 := n7_; have BK529 := n8_; have BK535 := n9_; have HB := n10_; clear n0_ n1_ n2_ n3_ n4_ n5_ n6_ n7_ n8_ n9_ n10_; obtain ⟨hcz62_0, hcz62_1, hfz62_0, hfz62_1⟩ := bz2 BK518.out; obtain ⟨hcz63_0, hcz63_1, hfz63_0, hfz63_1⟩ := bz2 BK519.out) | ((with_reducible refine gate_callee (f := 44) rfl ?_); refine goesL_ (some 40) rfl rfl Try.func44 (by kernel_rfl) rfl #[.agg #[.bool t509, .slice Ao35 t510.length co35], .agg #[.bool t513, .slice Ao37 t514.length co37]] rfl (by (try simp only [List.map_toArray, List.map_cons, List.map_nil]); first | done | rfl | (simp only [List.length_drop, List.length_take]; rfl)) ?_; (with_reducible refine (exact_Sub.calls k t509 _ _ t510 t513 (fun k_ => (k_ ≠ gb518 ∧ (k_ ≠ gb519 ∧ (k_ ≠ gb528 ∧ (k_ ≠ gb529 ∧ k_ ≠ gb535))))) _ _ t514 t536 t537 t540 _ ?side1 ?side2 ?side3 A10.out).mono ?_); (case side1 => exact kc ((Kd.V_reads' HO512.out).2.2)); (case side2 => exact (Kd.V_reads' HO512.out).2.1); (case side3 => exact HO516.out); rintro e w64 ⟨v538, rfl, ho0, hb⟩; refine ⟨_, rfl, ?_⟩; replace HO512 := Aside0.mk (vb HO512.out hb); replace HO516 := Aside0.mk (vb HO516.out hb); replace HO523 := Aside0.mk (vb HO523.out hb); replace HO527 := Aside0.mk (vb HO527.out hb); replace HO533 := Aside0.mk (vb HO533.out hb); have HO539 := Aside0.mk (Kd.V_lower (Kd.V_mono (ok' := fun k_ => k_ ≠ gb518 ∧ k_ ≠ gb519 ∧ k_ ≠ gb528 ∧ k_ ≠ gb529 ∧ k_ ≠ gb535) ho0 (fun k_ hk_ => ⟨Or.elim hk_ (fun hs_ => hs_.1) (fun hn_ => (Kd.freshB (g := gb518) (o := .cells #[.bool t509, .slice Ao35 t510.length co35] 43 (0, 0)) (bk BK518.out) k_ hn_)), Or.elim hk_ (fun hs_ => hs_.2.1) (fun hn_ => (Kd.freshB (g := gb519) (o := .cells #[.bool t513, .slice Ao37 t514.length co37] 43 (0, 0)) (bk BK519.out) k_ hn_)), Or.elim hk_ (fun hs_ => hs_.2.2.1) (fun hn_ => (Kd.freshB (g := gb528) (o := .cells #[.bool t520, .slice Ao46 t521.length co46] 36 (0, 0)) (bk BK528.out) k_ hn_)), Or.elim hk_ (fun hs_ => hs_.2.2.2.1) (fun hn_ => (Kd.freshB (g := gb529) (o := .cells #[.bool t524, .slice Ao50 t525.length co50] 36 (0, 0)) (bk BK529.out) k_ hn_)), Or.elim hk_ (fun hs_ => hs_.2.2.2.2) (fun hn_ => (Kd.freshB (g := gb535) (o := .cells #[.bool t530, .slice Ao60 t531.length co60] 43 (0, 0)) (bk BK535.out) k_ hn_))⟩)) (below_size bl)); replace BK518 := Aside0.mk (bb BK518.out hb); replace BK519 := Aside0.mk (bb BK519.out hb); replace BK528 := Aside0.mk (bb BK528.out hb); replace BK529 := Aside0.mk (bb BK529.out hb); replace BK535 := Aside0.mk (bb BK535.out hb); replace HB := Aside0.mk (below_step bl hb); (try clear hb); (try clear ho0)) | ((with_reducible refine gate_dst (N := 12) rfl ?_); refine box_event ?hg (N := 12) ?hd (cs := #[.bool false, .slice none 0 0]) (t := 43) ?hr ?_; (case hd => rfl); (case hg => rfl); (case hr => first | (go_simp; done) | (go_simp; rfl)); intro gb541 hg w65 hbox hb; replace HO512 := Aside0.mk (Kd.V_below (Kd.V_elderB (vk HO512.out) gb541 (Nat.le_of_eq hg.symm)) hb); replace HO516 := Aside0.mk (Kd.V_below (Kd.V_elderB (vk HO516.out) gb541 (Nat.le_of_eq hg.symm)) hb); replace HO523 := Aside0.mk (Kd.V_below (Kd.V_elderB (vk HO523.out) gb541 (Nat.le_of_eq hg.symm)) hb); replace HO527 := Aside0.mk (Kd.V_below (Kd.V_elderB (vk HO527.out) gb541 (Nat.le_of_eq hg.symm)) hb); replace HO533 := Aside0.mk (Kd.V_below (Kd.V_elderB (vk HO533.out) gb541 (Nat.le_of_eq hg.symm)) hb); replace HO539 := Aside0.mk (Kd.V_below (Kd.V_elderB (vk HO539.out) gb541 (Nat.le_of_eq hg.symm)) hb); have BK541 := Aside0.mk (hbox); have GE541 := Aside0.mk (ge (w := w) hg); replace HB := Aside0.mk (below_step bl hb); have NB518_541 := Aside0.mk (nl hg (bk BK518.out)); have NB541_518 := Aside0.mk (ng hg (bk BK518.out)); replace BK518 := Aside0.mk (bb BK518.out hb); have NB519_541 := Aside0.mk (nl hg (bk BK519.out)); have NB541_519 := Aside0.mk (ng hg (bk BK519.out)); replace BK519 := Aside0.mk (bb BK519.out hb); have NB528_541 := Aside0.mk (nl hg (bk BK528.out)); have NB541_528 := Aside0.mk (ng hg (bk BK528.out)); replace BK528 := Aside0.mk (bb BK528.out hb); have NB529_541 := Aside0.mk (nl hg (bk BK529.out)); have NB541_529 := Aside0.mk (ng hg (bk BK529.out)); replace BK529 := Aside0.mk (bb BK529.out hb); have NB535_541 := Aside0.mk (nl hg (bk BK535.out)); have NB541_535 := Aside0.mk (ng hg (bk BK535.out)); replace BK535 := Aside0.mk (bb BK535.out hb); clear hb hbox hg; have hnc66 := NB518_541.out; have hnb67 := NB541_519.out; have hnc67 := NB519_541.out; have hnb68 := NB541_528.out; have hnc68 := NB528_541.out; have hnb69 := NB541_529.out; have hnc69 := NB529_541.out; have hnb70 := NB541_535.out; have hnc70 := NB535_541.out; obtain ⟨hcz71_0, hcz71_1, hfz71_0, hfz71_1⟩ := bz2 BK541.out; obtain ⟨Ao72, co72, eo72⟩ := Kd.V_slice HO539.out; subst eo72; obtain ⟨hcz73_0, hcz73_1, hfz73_0, hfz73_1⟩ := bz2 BK518.out; obtain ⟨hcz74_0, hcz74_1, hfz74_0, hfz74_1⟩ := bz2 BK519.out) | ((with_reducible refine gate_callee (f := 45) rfl ?_); refine goesL_ (some 46) rfl rfl Try.func45 (by kernel_rfl) rfl #[.agg #[.bool t509, .slice Ao35 t510.length co35], .agg #[.bool t513, .slice Ao37 t514.length co37]] rfl (by (try simp only [List.map_toArray, List.map_cons, List.map_nil]); first | done | rfl | (simp only [List.length_drop, List.length_take]; rfl)) ?_; (with_reducible refine (exact_Mul.calls k t509 _ _ t510 t513 _ _ t514 t542 t543 t546 _ ?side1 ?side2 ?side3 ?side4 A11.out).mono ?_); (case side1 => refine (Kd.V_reads' (e := 97) (base := w.heap.size) (ok := fun k_ => ((k_ ≠ gb518 ∧ (k_ ≠ gb519 ∧ (k_ ≠ gb528 ∧ (k_ ≠ gb529 ∧ k_ ≠ gb535)))) ∧ k_ ≠ gb541)) (n := t510.length) (c := co35) ?_).2.2; exact (by (with_reducible repeat (first | apply Kd.V_alloc | apply Kd.V_drewN | apply Kd.V_drew)); exact (Kd.V_mono (Kd.V_far (p := ⟨gb541, 1, none⟩) (Kd.V_far (p := ⟨gb541, 0, none⟩) (Kd.V_mono HO512.out (fun k_ hk => (⟨hk, hk.2⟩ : _ ∧ k_ ≠ gb541))) (fun _ hk => hk.2) (.bool t536)) (fun _ hk => hk.2) (.slice Ao72 t537.length co72)) (fun _ h_ => h_.1)))); (case side2 => exact (Kd.V_reads' HO512.out).2.1); (case side3 => refine (Kd.V_reads' (e := 97) (base := w.heap.size) (ok := fun k_ => ((k_ ≠ gb518 ∧ (k_ ≠ gb519 ∧ (k_ ≠ gb528 ∧ (k_ ≠ gb529 ∧ k_ ≠ gb535)))) ∧ k_ ≠ gb541)) (n := t514.length) (c := co37) ?_).2.2; exact (by (with_reducible repeat (first | apply Kd.V_alloc | apply Kd.V_drewN | apply Kd.V_drew)); exact (Kd.V_mono (Kd.V_far (p := ⟨gb541, 1, none⟩) (Kd.V_far (p := ⟨gb541, 0, none⟩) (Kd.V_mono HO516.out (fun k_ hk => (⟨hk, hk.2⟩ : _ ∧ k_ ≠ gb541))) (fun _ hk => hk.2) (.bool t536)) (fun _ hk => hk.2) (.slice Ao72 t537.length co72)) (fun _ h_ => h_.1)))); (case side4 => exact (Kd.V_reads' HO516.out).2.1); rintro e w75 ⟨v544, rfl, ho0, hb⟩; refine ⟨_, rfl, ?_⟩; replace HO512 := Aside0.mk (Kd.V_below (by (with_reducible repeat (first | apply Kd.V_alloc | apply Kd.V_drewN | apply Kd.V_drew)); exact (Kd.V_mono (Kd.V_far (p := ⟨gb541, 1, none⟩) (Kd.V_far (p := ⟨gb541, 0, none⟩) (Kd.V_mono HO512.out (fun k_ hk => (⟨hk, hk.2⟩ : _ ∧ k_ ≠ gb541))) (fun _ hk => hk.2) (.bool t536)) (fun _ hk => hk.2) (.slice Ao72 t537.length co72)) (fun _ h_ => h_.1))) hb); replace HO516 := Aside0.mk (Kd.V_below (by (with_reducible repeat (first | apply Kd.V_alloc | apply Kd.V_drewN | apply Kd.V_drew)); exact (Kd.V_mono (Kd.V_far (p := ⟨gb541, 1, none⟩) (Kd.V_far (p := ⟨gb541, 0, none⟩) (Kd.V_mono HO516.out (fun k_ hk => (⟨hk, hk.2⟩ : _ ∧ k_ ≠ gb541))) (fun _ hk => hk.2) (.bool t536)) (fun _ hk => hk.2) (.slice Ao72 t537.length co72)) (fun _ h_ => h_.1))) hb); replace HO523 := Aside0.mk (Kd.V_below (by (with_reducible repeat (first | apply Kd.V_alloc | apply Kd.V_drewN | apply Kd.V_drew)); exact (Kd.V_mono (Kd.V_far (p := ⟨gb541, 1, none⟩) (Kd.V_far (p := ⟨gb541, 0, none⟩) (Kd.V_mono HO523.out (fun k_ hk => (⟨hk, hk.2⟩ : _ ∧ k_ ≠ gb541))) (fun _ hk => hk.2) (.bool t536)) (fun _ hk => hk.2) (.slice Ao72 t537.length co72)) (fun _ h_ => h_.1))) hb); replace HO527 := Aside0.mk (Kd.V_below (by (with_reducible repeat (first | apply Kd.V_alloc | apply Kd.V_drewN | apply Kd.V_drew)); exact (Kd.V_mono (Kd.V_far (p := ⟨gb541, 1, none⟩) (Kd.V_far (p := ⟨gb541, 0, none⟩) (Kd.V_mono HO527.out (fun k_ hk => (⟨hk, hk.2⟩ : _ ∧ k_ ≠ gb541))) (fun _ hk => hk.2) (.bool t536)) (fun _ hk => hk.2) (.slice Ao72 t537.length co72)) (fun _ h_ => h_.1))) hb); replace HO533 := Aside0.mk (Kd.V_below (by (with_reducible repeat (first | apply Kd.V_alloc | apply Kd.V_drewN | apply Kd.V_drew)); exact (Kd.V_mono (Kd.V_far (p := ⟨gb541, 1, none⟩) (Kd.V_far (p := ⟨gb541, 0, none⟩) (Kd.V_mono HO533.out (fun k_ hk => (⟨hk, hk.2⟩ : _ ∧ k_ ≠ gb541))) (fun _ hk => hk.2) (.bool t536)) (fun _ hk => hk.2) (.slice Ao72 t537.length co72)) (fun _ h_ => h_.1))) hb); replace HO539 := Aside0.mk (Kd.V_below (by (with_reducible repeat (first | apply Kd.V_alloc | apply Kd.V_drewN | apply Kd.V_drew)); exact (Kd.V_mono (Kd.V_far (p := ⟨gb541, 1, none⟩) (Kd.V_far (p := ⟨gb541, 0, none⟩) (Kd.V_mono HO539.out (fun k_ hk => (⟨hk, hk.2⟩ : _ ∧ k_ ≠ gb541))) (fun _ hk => hk.2) (.bool t536)) (fun _ hk => hk.2) (.slice Ao72 t537.length co72)) (fun _ h_ => h_.1))) hb); have HO545 := Aside0.mk (Kd.V_lower (Kd.V_mono (ok' := fun k_ => k_ ≠ gb518 ∧ k_ ≠ gb519 ∧ k_ ≠ gb528 ∧ k_ ≠ gb529 ∧ k_ ≠ gb535 ∧ k_ ≠ gb541) ho0 (fun k_ hk_ => ⟨(Kd.freshB (g := gb518) (o := .cells #[.bool t509, .slice Ao35 t510.length co35] 43 (0, 0)) (bf BK518.out) k_ hk_), (Kd.freshB (g := gb519) (o := .cells #[.bool t513, .slice Ao37 t514.length co37] 43 (0, 0)) (bf BK519.out) k_ hk_), (Kd.freshB (g := gb528) (o := .cells #[.bool t520, .slice Ao46 t521.length co46] 36 (0, 0)) (bf BK528.out) k_ hk_), (Kd.freshB (g := gb529) (o := .cells #[.bool t524, .slice Ao50 t525.length co50] 36 (0, 0)) (bf BK529.out) k_ hk_), (Kd.freshB (g := gb535) (o := .cells #[.bool t530, .slice Ao60 t531.length co60] 43 (0, 0)) (bf BK535.out) k_ hk_), (Kd.freshB (g := gb541) (o := .cells #[.bool t536, .slice Ao72 t537.length co72] 43 (0, 0)) (by (with_reducible repeat (first | refine blk_drewN ?_ _ | refine blk_drew ?_ | refine blk_alloc ?_ _)); refine blk_put (cs := #[.bool t536, .slice none 0 0]) ?_ 1 _ rfl; (with_reducible repeat (first | refine blk_drewN ?_ _ | refine blk_drew ?_ | refine blk_alloc ?_ _)); refine blk_put (cs := #[.bool false, .slice none 0 0]) ?_ 0 _ rfl; (with_reducible repeat (first | refine blk_drewN ?_ _ | refine blk_drew ?_ | refine blk_alloc ?_ _)); exact BK541.out) k_ hk_)⟩)) (below_size bl)); replace BK518 := Aside0.mk (blk_below (bf BK518.out) hb); replace BK519 := Aside0.mk (blk_below (bf BK519.out) hb); replace BK528 := Aside0.mk (blk_below (bf BK528.out) hb); replace BK529 := Aside0.mk (blk_below (bf BK529.out) hb); replace BK535 := Aside0.mk (blk_below (bf BK535.out) hb); replace BK541 := Aside0.mk (blk_below (g := gb541) (o := .cells #[.bool t536, .slice Ao72 t537.length co72] 43 (0, 0)) (by (with_reducible repeat (first | refine blk_drewN ?_ _ | refine blk_drew ?_ | refine blk_alloc ?_ _)); refine blk_put (cs := #[.bool t536, .slice none 0 0]) ?_ 1 _ rfl; (with_reducible repeat (first | refine blk_drewN ?_ _ | refine blk_drew ?_ | refine blk_alloc ?_ _)); refine blk_put (cs := #[.bool false, .slice none 0 0]) ?_ 0 _ rfl; (with_reducible repeat (first | refine blk_drewN ?_ _ | refine blk_drew ?_ | refine blk_alloc ?_ _)); exact BK541.out) hb); replace HB := Aside0.mk (below_step bl hb); (try clear hb); (try clear ho0)) | ((with_reducible refine gate_dst (N := 14) rfl ?_); refine box_event ?hg (N := 14) ?hd (cs := #[.bool false, .slice none 0 0]) (t := 43) ?hr ?_; (case hd => rfl); (case hg => rfl); (case hr => first | (go_simp; done) | (go_simp; rfl)); intro gb547 hg w76 hbox hb; replace HO512 := Aside0.mk (Kd.V_below (Kd.V_elderB (vk HO512.out) gb547 (Nat.le_of_eq hg.symm)) hb); replace HO516 := Aside0.mk (Kd.V_below (Kd.V_elderB (vk HO516.out) gb547 (Nat.le_of_eq hg.symm)) hb); replace HO523 := Aside0.mk (Kd.V_below (Kd.V_elderB (vk HO523.out) gb547 (Nat.le_of_eq hg.symm)) hb); replace HO527 := Aside0.mk (Kd.V_below (Kd.V_elderB (vk HO527.out) gb547 (Nat.le_of_eq hg.symm)) hb); replace HO533 := Aside0.mk (Kd.V_below (Kd.V_elderB (vk HO533.out) gb547 (Nat.le_of_eq hg.symm)) hb); replace HO539 := Aside0.mk (Kd.V_below (Kd.V_elderB (vk HO539.out) gb547 (Nat.le_of_eq hg.symm)) hb); replace HO545 := Aside0.mk (Kd.V_below (Kd.V_elderB (vk HO545.out) gb547 (Nat.le_of_eq hg.symm)) hb); have BK547 := Aside0.mk (hbox); have GE547 := Aside0.mk (ge (w := w) hg); replace HB := Aside0.mk (below_step bl hb); have NB518_547 := Aside0.mk (nl hg (bk BK518.out)); have NB547_518 := Aside0.mk (ng hg (bk BK518.out)); replace BK518 := Aside0.mk (bb BK518.out hb); have NB519_547 := Aside0.mk (nl hg (bk BK519.out)); have NB547_519 := Aside0.mk (ng hg (bk BK519.out)); replace BK519 := Aside0.mk (bb BK519.out hb); have NB528_547 := Aside0.mk (nl hg (bk BK528.out)); have NB547_528 := Aside0.mk (ng hg (bk BK528.out)); replace BK528 := Aside0.mk (bb BK528.out hb); have NB529_547 := Aside0.mk (nl hg (bk BK529.out)); have NB547_529 := Aside0.mk (ng hg (bk BK529.out)); replace BK529 := Aside0.mk (bb BK529.out hb); have NB535_547 := Aside0.mk (nl hg (bk BK535.out)); have NB547_535 := Aside0.mk (ng hg (bk BK535.out)); replace BK535 := Aside0.mk (bb BK535.out hb); have NB541_547 := Aside0.mk (nl hg (bk BK541.out)); have NB547_541 := Aside0.mk (ng hg (bk BK541.out)); replace BK541 := Aside0.mk (bb BK541.out hb); clear hb hbox hg; obtain ⟨hcz83_0, hcz83_1, hfz83_0, hfz83_1⟩ := bz2 BK547.out; obtain ⟨Ao84, co84, eo84⟩ := Kd.V_slice HO545.out; subst eo84))
 have n0_ : Aside0 (Kd.V (Kd.int .u32) 97 ((w76.setCell ⟨gb547, 0, none⟩ (.bool t542)).setCell ⟨gb547, 1, none⟩ (.slice Ao84 t543.length co84)) w.heap.size (fun k_ => k_ ≠ gb518 ∧ k_ ≠ gb519 ∧ k_ ≠ gb528 ∧ k_ ≠ gb529 ∧ k_ ≠ gb535 ∧ k_ ≠ gb541 ∧ k_ ≠ gb547) (.slice Ao35 t510.length co35) t510) := ⟨by (with_reducible repeat (first | apply Kd.V_alloc | apply Kd.V_drewN | apply Kd.V_drew)); exact Kd.V_mono (Kd.V_far (p := ⟨gb547, 1, none⟩) (Kd.V_far (p := ⟨gb547, 0, none⟩) (Kd.V_mono HO512.out (fun k_ hk => (⟨hk, hk.2⟩ : _ ∧ k_ ≠ gb547))) (fun _ hk => hk.2) (.bool t542)) (fun _ hk => hk.2) (.slice Ao84 t543.length co84)) (fun _ hk => ⟨hk.1.1.1.1, ⟨hk.1.1.1.2.1, ⟨hk.1.1.1.2.2.1, ⟨hk.1.1.1.2.2.2.1, ⟨hk.1.1.1.2.2.2.2, ⟨hk.1.1.2, hk.1.2⟩⟩⟩⟩⟩⟩)⟩
 have n1_ : Aside0 (Kd.V (Kd.int .u32) 97 ((w76.setCell ⟨gb547, 0, none⟩ (.bool t542)).setCell ⟨gb547, 1, none⟩ (.slice Ao84 t543.length co84)) w.heap.size (fun k_ => k_ ≠ gb518 ∧ k_ ≠ gb519 ∧ k_ ≠ gb528 ∧ k_ ≠ gb529 ∧ k_ ≠ gb535 ∧ k_ ≠ gb541 ∧ k_ ≠ gb547) (.slice Ao37 t514.length co37) t514) := ⟨by (with_reducible repeat (first | apply Kd.V_alloc | apply Kd.V_drewN | apply Kd.V_drew)); exact Kd.V_mono (Kd.V_far (p := ⟨gb547, 1, none⟩) (Kd.V_far (p := ⟨gb547, 0, none⟩) (Kd.V_mono HO516.out (fun k_ hk => (⟨hk, hk.2⟩ : _ ∧ k_ ≠ gb547))) (fun _ hk => hk.2) (.bool t542)) (fun _ hk => hk.2) (.slice Ao84 t543.length co84)) (fun _ hk => ⟨hk.1.1.1.1, ⟨hk.1.1.1.2.1, ⟨hk.1.1.1.2.2.1, ⟨hk.1.1.1.2.2.2.1, ⟨hk.1.1.1.2.2.2.2, ⟨hk.1.1.2, hk.1.2⟩⟩⟩⟩⟩⟩)⟩
 have n2_ : Aside0 (Kd.V (Kd.int .i64) 3 ((w76.setCell ⟨gb547, 0, none⟩ (.bool t542)).setCell ⟨gb547, 1, none⟩ (.slice Ao84 t543.length co84)) w.heap.size (fun k_ => k_ ≠ gb518 ∧ k_ ≠ gb519 ∧ k_ ≠ gb528 ∧ k_ ≠ gb529 ∧ k_ ≠ gb535 ∧ k_ ≠ gb541 ∧ k_ ≠ gb547) (.slice Ao46 t521.length co46) t521) := ⟨by (with_reducible repeat (first | apply Kd.V_alloc | apply Kd.V_drewN | apply Kd.V_drew)); exact Kd.V_mono (Kd.V_far (p := ⟨gb547, 1, none⟩) (Kd.V_far (p := ⟨gb547, 0, none⟩) (Kd.V_mono HO523.out (fun k_ hk => (⟨hk, hk.2⟩ : _ ∧ k_ ≠ gb547))) (fun _ hk => hk.2) (.bool t542)) (fun _ hk => hk.2) (.slice Ao84 t543.length co84)) (fun _ hk => ⟨hk.1.1.1.1, ⟨hk.1.1.1.2.1, ⟨hk.1.1.1.2.2.1, ⟨hk.1.1.1.2.2.2.1, ⟨hk.1.1.1.2.2.2.2, ⟨hk.1.1.2, hk.1.2⟩⟩⟩⟩⟩⟩)⟩
 have n3_ : Aside0 (Kd.V (Kd.int .i64) 3 ((w76.setCell ⟨gb547, 0, none⟩ (.bool t542)).setCell ⟨gb547, 1, none⟩ (.slice Ao84 t543.length co84)) w.heap.size (fun k_ => k_ ≠ gb518 ∧ k_ ≠ gb519 ∧ k_ ≠ gb528 ∧ k_ ≠ gb529 ∧ k_ ≠ gb535 ∧ k_ ≠ gb541 ∧ k_ ≠ gb547) (.slice Ao50 t525.length co50) t525) := ⟨by (with_reducible repeat (first | apply Kd.V_alloc | apply Kd.V_drewN | apply Kd.V_drew)); exact Kd.V_mono (Kd.V_far (p := ⟨gb547, 1, none⟩) (Kd.V_far (p := ⟨gb547, 0, none⟩) (Kd.V_mono HO527.out (fun k_ hk => (⟨hk, hk.2⟩ : _ ∧ k_ ≠ gb547))) (fun _ hk => hk.2) (.bool t542)) (fun _ hk => hk.2) (.slice Ao84 t543.length co84)) (fun _ hk => ⟨hk.1.1.1.1, ⟨hk.1.1.1.2.1, ⟨hk.1.1.1.2.2.1, ⟨hk.1.1.1.2.2.2.1, ⟨hk.1.1.1.2.2.2.2, ⟨hk.1.1.2, hk.1.2⟩⟩⟩⟩⟩⟩)⟩
 have n4_ : Aside0 (Kd.V (Kd.int .u32) 97 ((w76.setCell ⟨gb547, 0, none⟩ (.bool t542)).setCell ⟨gb547, 1, none⟩ (.slice Ao84 t543.length co84)) w.heap.size (fun k_ => k_ ≠ gb518 ∧ k_ ≠ gb519 ∧ k_ ≠ gb528 ∧ k_ ≠ gb529 ∧ k_ ≠ gb535 ∧ k_ ≠ gb541 ∧ k_ ≠ gb547) (.slice Ao60 t531.length co60) t531) := ⟨by (with_reducible repeat (first | apply Kd.V_alloc | apply Kd.V_drewN | apply Kd.V_drew)); exact Kd.V_mono (Kd.V_far (p := ⟨gb547, 1, none⟩) (Kd.V_far (p := ⟨gb547, 0, none⟩) (Kd.V_mono HO533.out (fun k_ hk => (⟨hk, hk.2⟩ : _ ∧ k_ ≠ gb547))) (fun _ hk => hk.2) (.bool t542)) (fun _ hk => hk.2) (.slice Ao84 t543.length co84)) (fun _ hk => ⟨hk.1.1.1.1, ⟨hk.1.1.1.2.1, ⟨hk.1.1.1.2.2.1, ⟨hk.1.1.1.2.2.2.1, ⟨hk.1.1.1.2.2.2.2, ⟨hk.1.1.2, hk.1.2⟩⟩⟩⟩⟩⟩)⟩
 have n5_ : Aside0 (Kd.V (Kd.int .u32) 97 ((w76.setCell ⟨gb547, 0, none⟩ (.bool t542)).setCell ⟨gb547, 1, none⟩ (.slice Ao84 t543.length co84)) w.heap.size (fun k_ => k_ ≠ gb518 ∧ k_ ≠ gb519 ∧ k_ ≠ gb528 ∧ k_ ≠ gb529 ∧ k_ ≠ gb535 ∧ k_ ≠ gb541 ∧ k_ ≠ gb547) (.slice Ao72 t537.length co72) t537) := ⟨by (with_reducible repeat (first | apply Kd.V_alloc | apply Kd.V_drewN | apply Kd.V_drew)); exact Kd.V_mono (Kd.V_far (p := ⟨gb547, 1, none⟩) (Kd.V_far (p := ⟨gb547, 0, none⟩) (Kd.V_mono HO539.out (fun k_ hk => (⟨hk, hk.2⟩ : _ ∧ k_ ≠ gb547))) (fun _ hk => hk.2) (.bool t542)) (fun _ hk => hk.2) (.slice Ao84 t543.length co84)) (fun _ hk => ⟨hk.1.1.1.1, ⟨hk.1.1.1.2.1, ⟨hk.1.1.1.2.2.1, ⟨hk.1.1.1.2.2.2.1, ⟨hk.1.1.1.2.2.2.2, ⟨hk.1.1.2, hk.1.2⟩⟩⟩⟩⟩⟩)⟩
 have n6_ : Aside0 (Kd.V (Kd.int .u32) 97 ((w76.setCell ⟨gb547, 0, none⟩ (.bool t542)).setCell ⟨gb547, 1, none⟩ (.slice Ao84 t543.length co84)) w.heap.size (fun k_ => k_ ≠ gb518 ∧ k_ ≠ gb519 ∧ k_ ≠ gb528 ∧ k_ ≠ gb529 ∧ k_ ≠ gb535 ∧ k_ ≠ gb541 ∧ k_ ≠ gb547) (.slice Ao84 t543.length co84) t543) := ⟨by (with_reducible repeat (first | apply Kd.V_alloc | apply Kd.V_drewN | apply Kd.V_drew)); exact Kd.V_mono (Kd.V_far (p := ⟨gb547, 1, none⟩) (Kd.V_far (p := ⟨gb547, 0, none⟩) (Kd.V_mono HO545.out (fun k_ hk => (⟨hk, hk.2⟩ : _ ∧ k_ ≠ gb547))) (fun _ hk => hk.2) (.bool t542)) (fun _ hk => hk.2) (.slice Ao84 t543.length co84)) (fun _ hk => ⟨hk.1.1.1, ⟨hk.1.1.2.1, ⟨hk.1.1.2.2.1, ⟨hk.1.1.2.2.2.1, ⟨hk.1.1.2.2.2.2.1, ⟨hk.1.1.2.2.2.2.2, hk.1.2⟩⟩⟩⟩⟩⟩)⟩
 have n7_ : Aside0 (((w76.setCell ⟨gb547, 0, none⟩ (.bool t542)).setCell ⟨gb547, 1, none⟩ (.slice Ao84 t543.length co84)).heap[gb518]? = some (.cells #[.bool t509, .slice Ao35 t510.length co35] 43 (0, 0))) := ⟨bf BK518.out⟩
 have n8_ : Aside0 (((w76.setCell ⟨gb547, 0, none⟩ (.bool t542)).setCell ⟨gb547, 1, none⟩ (.slice Ao84 t543.length co84)).heap[gb519]? = some (.cells #[.bool t513, .slice Ao37 t514.length co37] 43 (0, 0))) := ⟨bf BK519.out⟩
 have n9_ : Aside0 (((w76.setCell ⟨gb547, 0, none⟩ (.bool t542)).setCell ⟨gb547, 1, none⟩ (.slice Ao84 t543.length co84)).heap[gb528]? = some (.cells #[.bool t520, .slice Ao46 t521.length co46] 36 (0, 0))) := ⟨bf BK528.out⟩
 have n10_ : Aside0 (((w76.setCell ⟨gb547, 0, none⟩ (.bool t542)).setCell ⟨gb547, 1, none⟩ (.slice Ao84 t543.length co84)).heap[gb529]? = some (.cells #[.bool t524, .slice Ao50 t525.length co50] 36 (0, 0))) := ⟨bf BK529.out⟩
 have n11_ : Aside0 (((w76.setCell ⟨gb547, 0, none⟩ (.bool t542)).setCell ⟨gb547, 1, none⟩ (.slice Ao84 t543.length co84)).heap[gb535]? = some (.cells #[.bool t530, .slice Ao60 t531.length co60] 43 (0, 0))) := ⟨bf BK535.out⟩
 have n12_ : Aside0 (((w76.setCell ⟨gb547, 0, none⟩ (.bool t542)).setCell ⟨gb547, 1, none⟩ (.slice Ao84 t543.length co84)).heap[gb541]? = some (.cells #[.bool t536, .slice Ao72 t537.length co72] 43 (0, 0))) := ⟨bf BK541.out⟩
 have n13_ : Aside0 (((w76.setCell ⟨gb547, 0, none⟩ (.bool t542)).setCell ⟨gb547, 1, none⟩ (.slice Ao84 t543.length co84)).heap[gb547]? = some (.cells #[.bool t542, .slice Ao84 t543.length co84] 43 (0, 0))) := ⟨by (with_reducible repeat (first | refine blk_drewN ?_ _ | refine blk_drew ?_ | refine blk_alloc ?_ _)); refine blk_put (cs := #[.bool t542, .slice none 0 0]) ?_ 1 _ rfl; (with_reducible repeat (first | refine blk_drewN ?_ _ | refine blk_drew ?_ | refine blk_alloc ?_ _)); refine blk_put (cs := #[.bool false, .slice none 0 0]) ?_ 0 _ rfl; (with_reducible repeat (first | refine blk_drewN ?_ _ | refine blk_drew ?_ | refine blk_alloc ?_ _)); exact BK547.out⟩
 have n14_ : Aside0 (Below w.heap.size w ((w76.setCell ⟨gb547, 0, none⟩ (.bool t542)).setCell ⟨gb547, 1, none⟩ (.slice Ao84 t543.length co84))) := ⟨bl⟩
 (try clear HO512)
 (try clear HO516)
 (try clear HO523)
 (try clear HO527)
 (try clear HO533)
 (try clear HO539)
 (try clear HO545)
 (try clear BK518)
 (try clear BK519)
 (try clear BK528)
 (try clear BK529)
 (try clear BK535)
 (try clear BK541)
 (try clear BK547)
 (try clear HB)
 generalize ((w76.setCell ⟨gb547, 0, none⟩ (.bool t542)).setCell ⟨gb547, 1, none⟩ (.slice Ao84 t543.length co84)) = w85 at n0_ n1_ n2_ n3_ n4_ n5_ n6_ n7_ n8_ n9_ n10_ n11_ n12_ n13_ n14_ ⊢
 have HO512 := n0_
 have HO516 := n1_
 have HO523 := n2_
 have HO527 := n3_
 have HO533 := n4_
 have HO539 := n5_
 have HO545 := n6_
 have BK518 := n7_
 have BK519 := n8_
 have BK528 := n9_
 have BK529 := n10_
 have BK535 := n11_
 have BK541 := n12_
 have BK547 := n13_
 have HB := n14_
 clear n0_ n1_ n2_ n3_ n4_ n5_ n6_ n7_ n8_ n9_ n10_ n11_ n12_ n13_ n14_
 replace HO512 := Aside0.mk (Kd.V_drew HO512.out); replace HO516 := Aside0.mk (Kd.V_drew HO516.out); replace HO523 := Aside0.mk (Kd.V_drew HO523.out); replace HO527 := Aside0.mk (Kd.V_drew HO527.out); replace HO533 := Aside0.mk (Kd.V_drew HO533.out); replace HO539 := Aside0.mk (Kd.V_drew HO539.out); replace HO545 := Aside0.mk (Kd.V_drew HO545.out); replace BK518 := Aside0.mk (blk_drew BK518.out); replace BK519 := Aside0.mk (blk_drew BK519.out); replace BK528 := Aside0.mk (blk_drew BK528.out); replace BK529 := Aside0.mk (blk_drew BK529.out); replace BK535 := Aside0.mk (blk_drew BK535.out); replace BK541 := Aside0.mk (blk_drew BK541.out); replace BK547 := Aside0.mk (blk_drew BK547.out); replace HB := Aside0.mk (below_drew1 HB.out)
 refine start_ (n := 47) (S := fun w' => w'.cell? ⟨gb535, 0, none⟩ = some (.bool t530) ∧ w'.cell? ⟨gb535, 1, none⟩ = some (.slice Ao60 t531.length co60) ∧ w'.cell? ⟨gb528, 0, none⟩ = some (.bool t520) ∧ w'.cell? ⟨gb528, 1, none⟩ = some (.slice Ao46 t521.length co46) ∧ w'.cell? ⟨gb529, 0, none⟩ = some (.bool t524) ∧ w'.cell? ⟨gb529, 1, none⟩ = some (.slice Ao50 t525.length co50) ∧ w'.cell? ⟨gb541, 0, none⟩ = some (.bool t536) ∧ w'.cell? ⟨gb541, 1, none⟩ = some (.slice Ao72 t537.length co72) ∧ w'.cell? ⟨gb547, 0, none⟩ = some (.bool t542) ∧ w'.cell? ⟨gb547, 1, none⟩ = some (.slice Ao84 t543.length co84) ∧ w'.cell? ⟨gb518, 0, none⟩ = some (.bool t509) ∧ w'.cell? ⟨gb518, 1, none⟩ = some (.slice Ao35 t510.length co35) ∧ w'.cell? ⟨gb519, 0, none⟩ = some (.bool t513) ∧ w'.cell? ⟨gb519, 1, none⟩ = some (.slice Ao37 t514.length co37)) (ds := []) (zb 0 47) (by kernel_rfl) rfl rfl ⟨(blk_cell BK535.out 0).trans rfl, (blk_cell BK535.out 1).trans rfl, (blk_cell BK528.out 0).trans rfl, (blk_cell BK528.out 1).trans rfl, (blk_cell BK529.out 0).trans rfl, (blk_cell BK529.out 1).trans rfl, (blk_cell BK541.out 0).trans rfl, (blk_cell BK541.out 1).trans rfl, (blk_cell BK547.out 0).trans rfl, (blk_cell BK547.out 1).trans rfl, (blk_cell BK518.out 0).trans rfl, (blk_cell BK518.out 1).trans rfl, (blk_cell BK519.out 0).trans rfl, (blk_cell BK519.out 1).trans rfl⟩ (fun hHeld => ?_); refine with_tabW masklaw4_ExactAdds.tab10 masklaw4_ExactAdds.bits10 (fun HT_ HW_ => ?_)
 generalize w85.drew = w86 at HO512 HO516 HO523 HO527 HO533 HO539 HO545 BK518 BK519 BK528 BK529 BK535 BK541 BK547 HB hHeld ⊢
 refine pure_ (i := 0) (N := some 49) (v := ?_) (a' := ?_) (zb 1 46) rfl rfl (any_of HT_.out (by kernel_rfl)) (fun _ _ _ h => h) (Or.inl ⟨by rfl, ?_⟩) ?_ ?_
 rotate_left; focus (intro w'; go_simp; with_reducible rfl)
 rotate_left; focus (simp only [Act.put, z1, z2, z3, i64_w, i32_w]; rfl)
 refine pure_ (i := 1) (N := some 50) (v := ?_) (a' := ?_) (zb 2 45) rfl rfl (any_of HT_.out (by kernel_rfl)) (fun _ _ _ h => h) (Or.inl ⟨by rfl, ?_⟩) ?_ ?_
 rotate_left; focus (intro w'; go_simp; with_reducible rfl)
 rotate_left; focus (simp only [Act.put, z1, z2, z3, i64_w, i32_w]; rfl)
 refine pure_ (i := 2) (N := some 51) (v := ?_) (a' := ?_) (zb 3 44) rfl rfl (any_of HT_.out (by kernel_rfl)) (fun _ _ _ h => h) (Or.inl ⟨by rfl, ?_⟩) ?_ ?_
 rotate_left; focus (intro w'; go_simp; with_reducible rfl)
 rotate_left; focus (simp only [Act.put, z1, z2, z3, i64_w, i32_w]; rfl)
 refine pure_ (i := 3) (N := some 52) (v := ?_) (a' := ?_) (zb 4 43) rfl rfl (any_of HT_.out (by kernel_rfl)) (fun _ _ _ h => h) (Or.inl ⟨by rfl, ?_⟩) ?_ ?_
 rotate_left; focus (intro w'; go_simp; with_reducible rfl)
 rotate_left; focus (simp only [Act.put, z1, z2, z3, i64_w, i32_w]; rfl)
 refine pure_ (i := 4) (N := some 53) (v := ?_) (a' := ?_) (zb 5 42) rfl rfl (any_of HT_.out (by kernel_rfl)) (fun _ _ _ h => h) (Or.inl ⟨by rfl, ?_⟩) ?_ ?_
 rotate_left; focus (intro w'; go_simp; with_reducible rfl)
 rotate_left; focus (simp only [Act.put, z1, z2, z3, i64_w, i32_w]; rfl)
 refine pure_ (i := 5) (N := some 54) (v := ?_) (a' := ?_) (zb 6 41) rfl rfl (any_of HT_.out (by kernel_rfl)) (fun _ _ _ h => h) (Or.inl ⟨by rfl, ?_⟩) ?_ ?_
 rotate_left; focus (intro w'; go_simp; with_reducible rfl)
 rotate_left; focus (simp only [Act.put, z1, z2, z3, i64_w, i32_w]; rfl)
 refine pure_ (i := 6) (N := some 55) (v := ?_) (a' := ?_) (zb 7 40) rfl rfl (any_of HT_.out (by kernel_rfl)) (fun _ _ _ h => h) (Or.inl ⟨by rfl, ?_⟩) ?_ ?_
 rotate_left; focus (intro w'; go_simp; with_reducible rfl)
 rotate_left; focus (simp only [Act.put, z1, z2, z3, i64_w, i32_w]; rfl)
 refine pure_ (i := 7) (N := some 56) (v := ?_) (a' := ?_) (zb 8 39) rfl rfl (any_of HT_.out (by kernel_rfl)) (fun _ _ _ h => h) (Or.inl ⟨by rfl, ?_⟩) ?_ ?_
 rotate_left; focus (intro w'; go_simp; with_reducible rfl)
 rotate_left; focus (simp only [Act.put, z1, z2, z3, i64_w, i32_w]; rfl)
 refine pure_ (i := 8) (N := some 57) (v := ?_) (a' := ?_) (zb 9 38) rfl rfl (any_of HT_.out (by kernel_rfl)) (fun _ _ _ h => h) (Or.inl ⟨by rfl, ?_⟩) ?_ ?_
 rotate_left; focus (intro w'; go_simp; with_reducible rfl)
 rotate_left; focus (simp only [Act.put, z1, z2, z3, i64_w, i32_w]; rfl)
 refine pure_ (i := 9) (N := some 58) (v := ?_) (a' := ?_) (zb 10 37) rfl rfl (any_of HT_.out (by kernel_rfl)) (fun _ _ _ h => h) (Or.inl ⟨by rfl, ?_⟩) ?_ ?_
 rotate_left; focus (intro w'; go_simp; with_reducible rfl)
 rotate_left; focus (simp only [Act.put, z1, z2, z3, i64_w, i32_w]; rfl)
 refine pure_ (i := 10) (N := some 59) (v := ?_) (a' := ?_) (zb 11 36) rfl rfl (any_of HT_.out (by kernel_rfl)) (fun _ _ _ h => h) (Or.inl ⟨by rfl, ?_⟩) ?_ ?_
 rotate_left; focus (intro w'; go_simp; with_reducible rfl)
 rotate_left; focus (simp only [Act.put, z1, z2, z3, i64_w, i32_w]; rfl)
 refine take_ (i := 11) (N := some 60) (v := ?_) (a' := ?_) (zb 12 35) rfl rfl (take_ofW HT_.out HW_.out (by kernel_rfl)) (fun _ _ _ h => h) (Or.inl ⟨by rfl, ?_⟩) hHeld ?_ ?_
 rotate_left
 · rintro w' ⟨s0, s1, s2, s3, s4, s5, s6, s7, s8, s9, s10, s11, s12, s13⟩
   go_simp
   with_reducible rfl
 rotate_left; focus (simp only [Act.put, z1, z2, z3, i64_w, i32_w]; rfl)
 refine take_ (i := 13) (N := some 62) (v := ?_) (a' := ?_) #[true,true,true,true,true,true,true,true,true,true,true,true,false,true,false,false,false,false,false,false,false,false,false,false,false,false,false,false,false,false,false,false,false,false,false,false,false,false,false,false,false,false,false,false,false,false,false] rfl rfl (take_ofW HT_.out HW_.out (by kernel_rfl)) (fun _ _ _ h => h) (Or.inl ⟨by rfl, ?_⟩) hHeld ?_ ?_
 rotate_left
 · rintro w' ⟨s0, s1, s2, s3, s4, s5, s6, s7, s8, s9, s10, s11, s12, s13⟩
   go_simp
   with_reducible rfl
 rotate_left; focus (simp only [Act.put, z1, z2, z3, i64_w, i32_w]; rfl)
 refine take_ (i := 14) (N := some 63) (v := ?_) (a' := ?_) #[true,true,true,true,true,true,true,true,true,true,true,true,false,true,true,false,false,false,false,false,false,false,false,false,false,false,false,false,false,false,false,false,false,false,false,false,false,false,false,false,false,false,false,false,false,false,false] rfl rfl (take_ofW HT_.out HW_.out (by kernel_rfl)) (fun _ _ _ h => h) (Or.inl ⟨by rfl, ?_⟩) hHeld ?_ ?_
 rotate_left
 · rintro w' ⟨s0, s1, s2, s3, s4, s5, s6, s7, s8, s9, s10, s11, s12, s13⟩
   go_simp
   with_reducible rfl
 rotate_left; focus (simp only [Act.put, z1, z2, z3, i64_w, i32_w]; rfl)
 refine one_ (i := 12) (N := some 61) (zb 15 32) rfl rfl (one_of HT_.out (by kernel_rfl)) (by decide) (fun K hK => ?_)
 refine goes_ Try.func25 (by kernel_rfl) rfl #[.agg #[.bool t530, .slice Ao60 t531.length co60]] (by rfl) rfl rfl (by (try simp only [List.map_toArray, List.map_cons, List.map_nil]); first | done | rfl | (simp only [List.length_drop, List.length_take]; rfl)) ?_
 with_reducible refine (exact_Text.calls k t530 (fun k_ => (k_ ≠ gb518 ∧ (k_ ≠ gb519 ∧ (k_ ≠ gb528 ∧ (k_ ≠ gb529 ∧ (k_ ≠ gb535 ∧ (k_ ≠ gb541 ∧ k_ ≠ gb547))))))) _ _ t531 t548 _ ?side1 A15.out).mono ?_
 (case side1 => exact HO533.out)
 rintro e w87 ⟨rfl, hb⟩
 refine ⟨_, rfl, ?_⟩
 replace HO512 := Aside0.mk (vb HO512.out hb); replace HO516 := Aside0.mk (vb HO516.out hb); replace HO523 := Aside0.mk (vb HO523.out hb); replace HO527 := Aside0.mk (vb HO527.out hb); replace HO533 := Aside0.mk (vb HO533.out hb); replace HO539 := Aside0.mk (vb HO539.out hb); replace HO545 := Aside0.mk (vb HO545.out hb); replace BK518 := Aside0.mk (bb BK518.out hb); replace BK519 := Aside0.mk (bb BK519.out hb); replace BK528 := Aside0.mk (bb BK528.out hb); replace BK529 := Aside0.mk (bb BK529.out hb); replace BK535 := Aside0.mk (bb BK535.out hb); replace BK541 := Aside0.mk (bb BK541.out hb); replace BK547 := Aside0.mk (bb BK547.out hb); replace HB := Aside0.mk (below_step bl hb)
 (try clear hb)
 (try clear hb2)
 (try clear hk)
 (try clear hi)
 refine hK.out _ _ ⟨(blk_cell BK535.out 0).trans rfl, (blk_cell BK535.out 1).trans rfl, (blk_cell BK528.out 0).trans rfl, (blk_cell BK528.out 1).trans rfl, (blk_cell BK529.out 0).trans rfl, (blk_cell BK529.out 1).trans rfl, (blk_cell BK541.out 0).trans rfl, (blk_cell BK541.out 1).trans rfl, (blk_cell BK547.out 0).trans rfl, (blk_cell BK547.out 1).trans rfl, (blk_cell BK518.out 0).trans rfl, (blk_cell BK518.out 1).trans rfl, (blk_cell BK519.out 0).trans rfl, (blk_cell BK519.out 1).trans rfl⟩ (fun hHeld => ?_)
 clear hK K
 refine norm_ (a' := ?_) ?_ ?_
 rotate_left; focus (show Act.put _ (some 61) _ = _; simp only [Act.put, z1, z2, z3, i64_w, i32_w]; rfl)
 refine one_ (i := 15) (N := some 64) (zb 16 31) rfl rfl (one_of HT_.out (by kernel_rfl)) (by decide) (fun K hK => ?_)
 refine goes_ Try.func46 (by kernel_rfl) rfl #[.agg #[.bool t520, .slice Ao46 t521.length co46], .agg #[.bool t524, .slice Ao50 t525.length co50]] (by rfl) rfl rfl (by (try simp only [List.map_toArray, List.map_cons, List.map_nil]); first | done | rfl | (simp only [List.length_drop, List.length_take]; rfl)) ?_
 with_reducible refine (maskref4_Dec_Plus.calls k t520 _ _ t521 t524 _ _ t525 t549 t550 _ ?side1 ?side2 ?side3 ?side4 A16.out).mono ?_
 (case side1 => exact kc ((Kd.V_reads' HO523.out).2.2))
 (case side2 => exact (Kd.V_reads' HO523.out).2.1)
 (case side3 => exact kc ((Kd.V_reads' HO527.out).2.2))
 (case side4 => exact (Kd.V_reads' HO527.out).2.1)
 rintro e w88 ⟨v551, rfl, ho0, hb⟩
 refine ⟨_, rfl, ?_⟩
 replace HO512 := Aside0.mk (vb HO512.out hb); replace HO516 := Aside0.mk (vb HO516.out hb); replace HO523 := Aside0.mk (vb HO523.out hb); replace HO527 := Aside0.mk (vb HO527.out hb); replace HO533 := Aside0.mk (vb HO533.out hb); replace HO539 := Aside0.mk (vb HO539.out hb); replace HO545 := Aside0.mk (vb HO545.out hb); have HO552 := Aside0.mk (Kd.V_lower (Kd.V_mono (ok' := fun k_ => k_ ≠ gb518 ∧ k_ ≠ gb519 ∧ k_ ≠ gb528 ∧ k_ ≠ gb529 ∧ k_ ≠ gb535 ∧ k_ ≠ gb541 ∧ k_ ≠ gb547) ho0 (fun k_ hk_ => ⟨(Kd.freshB (g := gb518) (o := .cells #[.bool t509, .slice Ao35 t510.length co35] 43 (0, 0)) (bk BK518.out) k_ hk_), (Kd.freshB (g := gb519) (o := .cells #[.bool t513, .slice Ao37 t514.length co37] 43 (0, 0)) (bk BK519.out) k_ hk_), (Kd.freshB (g := gb528) (o := .cells #[.bool t520, .slice Ao46 t521.length co46] 36 (0, 0)) (bk BK528.out) k_ hk_), (Kd.freshB (g := gb529) (o := .cells #[.bool t524, .slice Ao50 t525.length co50] 36 (0, 0)) (bk BK529.out) k_ hk_), (Kd.freshB (g := gb535) (o := .cells #[.bool t530, .slice Ao60 t531.length co60] 43 (0, 0)) (bk BK535.out) k_ hk_), (Kd.freshB (g := gb541) (o := .cells #[.bool t536, .slice Ao72 t537.length co72] 43 (0, 0)) (bk BK541.out) k_ hk_), (Kd.freshB (g := gb547) (o := .cells #[.bool t542, .slice Ao84 t543.length co84] 43 (0, 0)) (bk BK547.out) k_ hk_)⟩)) (below_size bl)); replace BK518 := Aside0.mk (bb BK518.out hb); replace BK519 := Aside0.mk (bb BK519.out hb); replace BK528 := Aside0.mk (bb BK528.out hb); replace BK529 := Aside0.mk (bb BK529.out hb); replace BK535 := Aside0.mk (bb BK535.out hb); replace BK541 := Aside0.mk (bb BK541.out hb); replace BK547 := Aside0.mk (bb BK547.out hb); replace HB := Aside0.mk (below_step bl hb)
 (try clear hb)
 (try clear hb2)
 (try clear hk)
 (try clear hi)
 (try clear ho0)
 obtain ⟨Ao89, co89, eo89⟩ := Kd.V_slice HO552.out
 (first | subst eo89 | (injection eo89 with f1_ f2_ f3_; have f4_ := f1_.symm; have f5_ := f3_.symm; clear f1_ f2_ f3_; subst f4_; subst f5_))
 refine hK.out _ _ ⟨(blk_cell BK535.out 0).trans rfl, (blk_cell BK535.out 1).trans rfl, (blk_cell BK528.out 0).trans rfl, (blk_cell BK528.out 1).trans rfl, (blk_cell BK529.out 0).trans rfl, (blk_cell BK529.out 1).trans rfl, (blk_cell BK541.out 0).trans rfl, (blk_cell BK541.out 1).trans rfl, (blk_cell BK547.out 0).trans rfl, (blk_cell BK547.out 1).trans rfl, (blk_cell BK518.out 0).trans rfl, (blk_cell BK518.out 1).trans rfl, (blk_cell BK519.out 0).trans rfl, (blk_cell BK519.out 1).trans rfl⟩ (fun hHeld => ?_)
 clear hK K
 refine norm_ (a' := ?_) ?_ ?_
 rotate_left; focus (show Act.put _ (some 64) _ = _; simp only [Act.put, z1, z2, z3, i64_w, i32_w]; rfl)
 refine one_ (i := 16) (N := some 65) (zb 17 30) rfl rfl (one_of HT_.out (by kernel_rfl)) (by decide) (fun K hK => ?_)
 refine goes_ Try.func26 (by kernel_rfl) rfl #[.agg #[.bool t549, .slice Ao89 t550.length co89]] (by rfl) rfl rfl (by (try simp only [List.map_toArray, List.map_cons, List.map_nil]); first | done | rfl | (simp only [List.length_drop, List.length_take]; rfl)) ?_
 with_reducible refine (maskref4_Dec_Text.calls k t549 _ _ t550 t553 _ ?side1 ?side2 A17.out).mono ?_
 (case side1 => exact kc ((Kd.V_reads' HO552.out).2.2))
 (case side2 => exact (Kd.V_reads' HO552.out).2.1)
 rintro e w90 ⟨rfl, hb⟩
 refine ⟨_, rfl, ?_⟩
 replace HO512 := Aside0.mk (vb HO512.out hb); replace HO516 := Aside0.mk (vb HO516.out hb); replace HO523 := Aside0.mk (vb HO523.out hb); replace HO527 := Aside0.mk (vb HO527.out hb); replace HO533 := Aside0.mk (vb HO533.out hb); replace HO539 := Aside0.mk (vb HO539.out hb); replace HO545 := Aside0.mk (vb HO545.out hb); replace HO552 := Aside0.mk (vb HO552.out hb); replace BK518 := Aside0.mk (bb BK518.out hb); replace BK519 := Aside0.mk (bb BK519.out hb); replace BK528 := Aside0.mk (bb BK528.out hb); replace BK529 := Aside0.mk (bb BK529.out hb); replace BK535 := Aside0.mk (bb BK535.out hb); replace BK541 := Aside0.mk (bb BK541.out hb); replace BK547 := Aside0.mk (bb BK547.out hb); replace HB := Aside0.mk (below_step bl hb)
 (try clear hb)
 (try clear hb2)
 (try clear hk)
 (try clear hi)
 refine hK.out _ _ ⟨(blk_cell BK535.out 0).trans rfl, (blk_cell BK535.out 1).trans rfl, (blk_cell BK528.out 0).trans rfl, (blk_cell BK528.out 1).trans rfl, (blk_cell BK529.out 0).trans rfl, (blk_cell BK529.out 1).trans rfl, (blk_cell BK541.out 0).trans rfl, (blk_cell BK541.out 1).trans rfl, (blk_cell BK547.out 0).trans rfl, (blk_cell BK547.out 1).trans rfl, (blk_cell BK518.out 0).trans rfl, (blk_cell BK518.out 1).trans rfl, (blk_cell BK519.out 0).trans rfl, (blk_cell BK519.out 1).trans rfl⟩ (fun hHeld => ?_)
 clear hK K
 refine norm_ (a' := ?_) ?_ ?_
 rotate_left; focus (show Act.put _ (some 65) _ = _; simp only [Act.put, z1, z2, z3, i64_w, i32_w]; rfl)
 refine pure_ (i := 17) (N := some 66) (v := ?_) (a' := ?_) (zb 18 29) rfl rfl (any_of HT_.out (by kernel_rfl)) (fun _ _ _ h => h) (Or.inl ⟨by rfl, ?_⟩) ?_ ?_
 rotate_left; focus (intro w'; go_simp; with_reducible rfl)
 rotate_left; focus (simp only [Act.put, z1, z2, z3, i64_w, i32_w]; rfl)
 refine pure_ (i := 18) (N := some 67) (v := ?_) (a' := ?_) (zb 19 28) rfl rfl (any_of HT_.out (by kernel_rfl)) (fun _ _ _ h => h) (Or.inl ⟨by rfl, ?_⟩) ?_ ?_
 rotate_left; focus (intro w'; go_simp; with_reducible rfl)
 rotate_left; focus (simp only [Act.put, z1, z2, z3, i64_w, i32_w]; rfl)
 refine pure_ (i := 19) (N := some 68) (v := ?_) (a' := ?_) (zb 20 27) rfl rfl (any_of HT_.out (by kernel_rfl)) (fun _ _ _ h => h) (Or.inl ⟨by rfl, ?_⟩) ?_ ?_
 rotate_left; focus (intro w'; go_simp; with_reducible rfl)
 rotate_left; focus (simp only [Act.put, z1, z2, z3, i64_w, i32_w]; rfl)
 refine take_ (i := 20) (N := some 69) (v := ?_) (a' := ?_) (zb 21 26) rfl rfl (take_ofW HT_.out HW_.out (by kernel_rfl)) (fun _ _ _ h => h) (Or.inl ⟨by rfl, ?_⟩) hHeld ?_ ?_
 rotate_left
 · rintro w' ⟨s0, s1, s2, s3, s4, s5, s6, s7, s8, s9, s10, s11, s12, s13⟩
   go_simp
   with_reducible rfl
 rotate_left; focus (simp only [Act.put, z1, z2, z3, i64_w, i32_w]; rfl)
 refine take_ (i := 22) (N := some 71) (v := ?_) (a' := ?_) #[true,true,true,true,true,true,true,true,true,true,true,true,true,true,true,true,true,true,true,true,true,false,true,false,false,false,false,false,false,false,false,false,false,false,false,false,false,false,false,false,false,false,false,false,false,false,false] rfl rfl (take_ofW HT_.out HW_.out (by kernel_rfl)) (fun _ _ _ h => h) (Or.inl ⟨by rfl, ?_⟩) hHeld ?_ ?_
 rotate_left
 · rintro w' ⟨s0, s1, s2, s3, s4, s5, s6, s7, s8, s9, s10, s11, s12, s13⟩
   go_simp
   with_reducible rfl
 rotate_left; focus (simp only [Act.put, z1, z2, z3, i64_w, i32_w]; rfl)
 refine take_ (i := 23) (N := some 72) (v := ?_) (a' := ?_) #[true,true,true,true,true,true,true,true,true,true,true,true,true,true,true,true,true,true,true,true,true,false,true,true,false,false,false,false,false,false,false,false,false,false,false,false,false,false,false,false,false,false,false,false,false,false,false] rfl rfl (take_ofW HT_.out HW_.out (by kernel_rfl)) (fun _ _ _ h => h) (Or.inl ⟨by rfl, ?_⟩) hHeld ?_ ?_
 rotate_left
 · rintro w' ⟨s0, s1, s2, s3, s4, s5, s6, s7, s8, s9, s10, s11, s12, s13⟩
   go_simp
   with_reducible rfl
 rotate_left; focus (simp only [Act.put, z1, z2, z3, i64_w, i32_w]; rfl)
 refine one_ (i := 21) (N := some 70) (zb 24 23) rfl rfl (one_of HT_.out (by kernel_rfl)) (by decide) (fun K hK => ?_)
 refine goes_ Try.func25 (by kernel_rfl) rfl #[.agg #[.bool t536, .slice Ao72 t537.length co72]] (by rfl) rfl rfl (by (try simp only [List.map_toArray, List.map_cons, List.map_nil]); first | done | rfl | (simp only [List.length_drop, List.length_take]; rfl)) ?_
 with_reducible refine (exact_Text.calls k t536 (fun k_ => (k_ ≠ gb518 ∧ (k_ ≠ gb519 ∧ (k_ ≠ gb528 ∧ (k_ ≠ gb529 ∧ (k_ ≠ gb535 ∧ (k_ ≠ gb541 ∧ k_ ≠ gb547))))))) _ _ t537 t554 _ ?side1 A19.out).mono ?_
 (case side1 => exact HO539.out)
 rintro e w91 ⟨rfl, hb⟩
 refine ⟨_, rfl, ?_⟩
 replace HO512 := Aside0.mk (vb HO512.out hb); replace HO516 := Aside0.mk (vb HO516.out hb); replace HO523 := Aside0.mk (vb HO523.out hb); replace HO527 := Aside0.mk (vb HO527.out hb); replace HO533 := Aside0.mk (vb HO533.out hb); replace HO539 := Aside0.mk (vb HO539.out hb); replace HO545 := Aside0.mk (vb HO545.out hb); replace HO552 := Aside0.mk (vb HO552.out hb); replace BK518 := Aside0.mk (bb BK518.out hb); replace BK519 := Aside0.mk (bb BK519.out hb); replace BK528 := Aside0.mk (bb BK528.out hb); replace BK529 := Aside0.mk (bb BK529.out hb); replace BK535 := Aside0.mk (bb BK535.out hb); replace BK541 := Aside0.mk (bb BK541.out hb); replace BK547 := Aside0.mk (bb BK547.out hb); replace HB := Aside0.mk (below_step bl hb)
 (try clear hb)
 (try clear hb2)
 (try clear hk)
 (try clear hi)
 refine hK.out _ _ ⟨(blk_cell BK535.out 0).trans rfl, (blk_cell BK535.out 1).trans rfl, (blk_cell BK528.out 0).trans rfl, (blk_cell BK528.out 1).trans rfl, (blk_cell BK529.out 0).trans rfl, (blk_cell BK529.out 1).trans rfl, (blk_cell BK541.out 0).trans rfl, (blk_cell BK541.out 1).trans rfl, (blk_cell BK547.out 0).trans rfl, (blk_cell BK547.out 1).trans rfl, (blk_cell BK518.out 0).trans rfl, (blk_cell BK518.out 1).trans rfl, (blk_cell BK519.out 0).trans rfl, (blk_cell BK519.out 1).trans rfl⟩ (fun hHeld => ?_)
 clear hK K
 refine norm_ (a' := ?_) ?_ ?_
 rotate_left; focus (show Act.put _ (some 70) _ = _; simp only [Act.put, z1, z2, z3, i64_w, i32_w]; rfl)
 refine one_ (i := 24) (N := some 73) (zb 25 22) rfl rfl (one_of HT_.out (by kernel_rfl)) (by decide) (fun K hK => ?_)
 refine goes_ Try.func47 (by kernel_rfl) rfl #[.agg #[.bool t520, .slice Ao46 t521.length co46], .agg #[.bool t524, .slice Ao50 t525.length co50]] (by rfl) rfl rfl (by (try simp only [List.map_toArray, List.map_cons, List.map_nil]); first | done | rfl | (simp only [List.length_drop, List.length_take]; rfl)) ?_
 with_reducible refine (maskref4_Dec_Minus.calls k t520 _ _ t521 t524 _ _ t525 t555 t556 _ ?side1 ?side2 ?side3 ?side4 A20.out).mono ?_
 (case side1 => exact kc ((Kd.V_reads' HO523.out).2.2))
 (case side2 => exact (Kd.V_reads' HO523.out).2.1)
 (case side3 => exact kc ((Kd.V_reads' HO527.out).2.2))
 (case side4 => exact (Kd.V_reads' HO527.out).2.1)
 rintro e w92 ⟨v557, rfl, ho0, hb⟩
 refine ⟨_, rfl, ?_⟩
 replace HO512 := Aside0.mk (vb HO512.out hb); replace HO516 := Aside0.mk (vb HO516.out hb); replace HO523 := Aside0.mk (vb HO523.out hb); replace HO527 := Aside0.mk (vb HO527.out hb); replace HO533 := Aside0.mk (vb HO533.out hb); replace HO539 := Aside0.mk (vb HO539.out hb); replace HO545 := Aside0.mk (vb HO545.out hb); replace HO552 := Aside0.mk (vb HO552.out hb); have HO558 := Aside0.mk (Kd.V_lower (Kd.V_mono (ok' := fun k_ => k_ ≠ gb518 ∧ k_ ≠ gb519 ∧ k_ ≠ gb528 ∧ k_ ≠ gb529 ∧ k_ ≠ gb535 ∧ k_ ≠ gb541 ∧ k_ ≠ gb547) ho0 (fun k_ hk_ => ⟨(Kd.freshB (g := gb518) (o := .cells #[.bool t509, .slice Ao35 t510.length co35] 43 (0, 0)) (bk BK518.out) k_ hk_), (Kd.freshB (g := gb519) (o := .cells #[.bool t513, .slice Ao37 t514.length co37] 43 (0, 0)) (bk BK519.out) k_ hk_), (Kd.freshB (g := gb528) (o := .cells #[.bool t520, .slice Ao46 t521.length co46] 36 (0, 0)) (bk BK528.out) k_ hk_), (Kd.freshB (g := gb529) (o := .cells #[.bool t524, .slice Ao50 t525.length co50] 36 (0, 0)) (bk BK529.out) k_ hk_), (Kd.freshB (g := gb535) (o := .cells #[.bool t530, .slice Ao60 t531.length co60] 43 (0, 0)) (bk BK535.out) k_ hk_), (Kd.freshB (g := gb541) (o := .cells #[.bool t536, .slice Ao72 t537.length co72] 43 (0, 0)) (bk BK541.out) k_ hk_), (Kd.freshB (g := gb547) (o := .cells #[.bool t542, .slice Ao84 t543.length co84] 43 (0, 0)) (bk BK547.out) k_ hk_)⟩)) (below_size bl)); replace BK518 := Aside0.mk (bb BK518.out hb); replace BK519 := Aside0.mk (bb BK519.out hb); replace BK528 := Aside0.mk (bb BK528.out hb); replace BK529 := Aside0.mk (bb BK529.out hb); replace BK535 := Aside0.mk (bb BK535.out hb); replace BK541 := Aside0.mk (bb BK541.out hb); replace BK547 := Aside0.mk (bb BK547.out hb); replace HB := Aside0.mk (below_step bl hb)
 (try clear hb)
 (try clear hb2)
 (try clear hk)
 (try clear hi)
 (try clear ho0)
 obtain ⟨Ao93, co93, eo93⟩ := Kd.V_slice HO558.out
 (first | subst eo93 | (injection eo93 with f1_ f2_ f3_; have f4_ := f1_.symm; have f5_ := f3_.symm; clear f1_ f2_ f3_; subst f4_; subst f5_))
 refine hK.out _ _ ⟨(blk_cell BK535.out 0).trans rfl, (blk_cell BK535.out 1).trans rfl, (blk_cell BK528.out 0).trans rfl, (blk_cell BK528.out 1).trans rfl, (blk_cell BK529.out 0).trans rfl, (blk_cell BK529.out 1).trans rfl, (blk_cell BK541.out 0).trans rfl, (blk_cell BK541.out 1).trans rfl, (blk_cell BK547.out 0).trans rfl, (blk_cell BK547.out 1).trans rfl, (blk_cell BK518.out 0).trans rfl, (blk_cell BK518.out 1).trans rfl, (blk_cell BK519.out 0).trans rfl, (blk_cell BK519.out 1).trans rfl⟩ (fun hHeld => ?_)
 clear hK K
 refine norm_ (a' := ?_) ?_ ?_
 rotate_left; focus (show Act.put _ (some 73) _ = _; simp only [Act.put, z1, z2, z3, i64_w, i32_w]; rfl)
 refine one_ (i := 25) (N := some 74) (zb 26 21) rfl rfl (one_of HT_.out (by kernel_rfl)) (by decide) (fun K hK => ?_)
 refine goes_ Try.func26 (by kernel_rfl) rfl #[.agg #[.bool t555, .slice Ao93 t556.length co93]] (by rfl) rfl rfl (by (try simp only [List.map_toArray, List.map_cons, List.map_nil]); first | done | rfl | (simp only [List.length_drop, List.length_take]; rfl)) ?_
 with_reducible refine (maskref4_Dec_Text.calls k t555 _ _ t556 t559 _ ?side1 ?side2 A21.out).mono ?_
 (case side1 => exact kc ((Kd.V_reads' HO558.out).2.2))
 (case side2 => exact (Kd.V_reads' HO558.out).2.1)
 rintro e w94 ⟨rfl, hb⟩
 refine ⟨_, rfl, ?_⟩
 replace HO512 := Aside0.mk (vb HO512.out hb); replace HO516 := Aside0.mk (vb HO516.out hb); replace HO523 := Aside0.mk (vb HO523.out hb); replace HO527 := Aside0.mk (vb HO527.out hb); replace HO533 := Aside0.mk (vb HO533.out hb); replace HO539 := Aside0.mk (vb HO539.out hb); replace HO545 := Aside0.mk (vb HO545.out hb); replace HO552 := Aside0.mk (vb HO552.out hb); replace HO558 := Aside0.mk (vb HO558.out hb); replace BK518 := Aside0.mk (bb BK518.out hb); replace BK519 := Aside0.mk (bb BK519.out hb); replace BK528 := Aside0.mk (bb BK528.out hb); replace BK529 := Aside0.mk (bb BK529.out hb); replace BK535 := Aside0.mk (bb BK535.out hb); replace BK541 := Aside0.mk (bb BK541.out hb); replace BK547 := Aside0.mk (bb BK547.out hb); replace HB := Aside0.mk (below_step bl hb)
 (try clear hb)
 (try clear hb2)
 (try clear hk)
 (try clear hi)
 refine hK.out _ _ ⟨(blk_cell BK535.out 0).trans rfl, (blk_cell BK535.out 1).trans rfl, (blk_cell BK528.out 0).trans rfl, (blk_cell BK528.out 1).trans rfl, (blk_cell BK529.out 0).trans rfl, (blk_cell BK529.out 1).trans rfl, (blk_cell BK541.out 0).trans rfl, (blk_cell BK541.out 1).trans rfl, (blk_cell BK547.out 0).trans rfl, (blk_cell BK547.out 1).trans rfl, (blk_cell BK518.out 0).trans rfl, (blk_cell BK518.out 1).trans rfl, (blk_cell BK519.out 0).trans rfl, (blk_cell BK519.out 1).trans rfl⟩ (fun hHeld => ?_)
 clear hK K
 refine norm_ (a' := ?_) ?_ ?_
 rotate_left; focus (show Act.put _ (some 74) _ = _; simp only [Act.put, z1, z2, z3, i64_w, i32_w]; rfl)
 refine pure_ (i := 26) (N := some 75) (v := ?_) (a' := ?_) (zb 27 20) rfl rfl (any_of HT_.out (by kernel_rfl)) (fun _ _ _ h => h) (Or.inl ⟨by rfl, ?_⟩) ?_ ?_
 rotate_left; focus (intro w'; go_simp; with_reducible rfl)
 rotate_left; focus (simp only [Act.put, z1, z2, z3, i64_w, i32_w]; rfl)
 refine pure_ (i := 27) (N := some 76) (v := ?_) (a' := ?_) (zb 28 19) rfl rfl (any_of HT_.out (by kernel_rfl)) (fun _ _ _ h => h) (Or.inl ⟨by rfl, ?_⟩) ?_ ?_
 rotate_left; focus (intro w'; go_simp; with_reducible rfl)
 rotate_left; focus (simp only [Act.put, z1, z2, z3, i64_w, i32_w]; rfl)
 refine pure_ (i := 28) (N := some 77) (v := ?_) (a' := ?_) (zb 29 18) rfl rfl (any_of HT_.out (by kernel_rfl)) (fun _ _ _ h => h) (Or.inl ⟨by rfl, ?_⟩) ?_ ?_
 rotate_left; focus (intro w'; go_simp; with_reducible rfl)
 rotate_left; focus (simp only [Act.put, z1, z2, z3, i64_w, i32_w]; rfl)
 refine take_ (i := 29) (N := some 78) (v := ?_) (a' := ?_) (zb 30 17) rfl rfl (take_ofW HT_.out HW_.out (by kernel_rfl)) (fun _ _ _ h => h) (Or.inl ⟨by rfl, ?_⟩) hHeld ?_ ?_
 rotate_left
 · rintro w' ⟨s0, s1, s2, s3, s4, s5, s6, s7, s8, s9, s10, s11, s12, s13⟩
   go_simp
   with_reducible rfl
 rotate_left; focus (simp only [Act.put, z1, z2, z3, i64_w, i32_w]; rfl)
 refine take_ (i := 31) (N := some 80) (v := ?_) (a' := ?_) #[true,true,true,true,true,true,true,true,true,true,true,true,true,true,true,true,true,true,true,true,true,true,true,true,true,true,true,true,true,true,false,true,false,false,false,false,false,false,false,false,false,false,false,false,false,false,false] rfl rfl (take_ofW HT_.out HW_.out (by kernel_rfl)) (fun _ _ _ h => h) (Or.inl ⟨by rfl, ?_⟩) hHeld ?_ ?_
 rotate_left
 · rintro w' ⟨s0, s1, s2, s3, s4, s5, s6, s7, s8, s9, s10, s11, s12, s13⟩
   go_simp
   with_reducible rfl
 rotate_left; focus (simp only [Act.put, z1, z2, z3, i64_w, i32_w]; rfl)
 refine take_ (i := 32) (N := some 81) (v := ?_) (a' := ?_) #[true,true,true,true,true,true,true,true,true,true,true,true,true,true,true,true,true,true,true,true,true,true,true,true,true,true,true,true,true,true,false,true,true,false,false,false,false,false,false,false,false,false,false,false,false,false,false] rfl rfl (take_ofW HT_.out HW_.out (by kernel_rfl)) (fun _ _ _ h => h) (Or.inl ⟨by rfl, ?_⟩) hHeld ?_ ?_
 rotate_left
 · rintro w' ⟨s0, s1, s2, s3, s4, s5, s6, s7, s8, s9, s10, s11, s12, s13⟩
   go_simp
   with_reducible rfl
 rotate_left; focus (simp only [Act.put, z1, z2, z3, i64_w, i32_w]; rfl)
 refine one_ (i := 30) (N := some 79) (zb 33 14) rfl rfl (one_of HT_.out (by kernel_rfl)) (by decide) (fun K hK => ?_)
 refine goes_ Try.func25 (by kernel_rfl) rfl #[.agg #[.bool t542, .slice Ao84 t543.length co84]] (by rfl) rfl rfl (by (try simp only [List.map_toArray, List.map_cons, List.map_nil]); first | done | rfl | (simp only [List.length_drop, List.length_take]; rfl)) ?_
 with_reducible refine (exact_Text.calls k t542 (fun k_ => (k_ ≠ gb518 ∧ (k_ ≠ gb519 ∧ (k_ ≠ gb528 ∧ (k_ ≠ gb529 ∧ (k_ ≠ gb535 ∧ (k_ ≠ gb541 ∧ k_ ≠ gb547))))))) _ _ t543 t560 _ ?side1 A23.out).mono ?_
 (case side1 => exact HO545.out)
 rintro e w95 ⟨rfl, hb⟩
 refine ⟨_, rfl, ?_⟩
 replace HO512 := Aside0.mk (vb HO512.out hb); replace HO516 := Aside0.mk (vb HO516.out hb); replace HO523 := Aside0.mk (vb HO523.out hb); replace HO527 := Aside0.mk (vb HO527.out hb); replace HO533 := Aside0.mk (vb HO533.out hb); replace HO539 := Aside0.mk (vb HO539.out hb); replace HO545 := Aside0.mk (vb HO545.out hb); replace HO552 := Aside0.mk (vb HO552.out hb); replace HO558 := Aside0.mk (vb HO558.out hb); replace BK518 := Aside0.mk (bb BK518.out hb); replace BK519 := Aside0.mk (bb BK519.out hb); replace BK528 := Aside0.mk (bb BK528.out hb); replace BK529 := Aside0.mk (bb BK529.out hb); replace BK535 := Aside0.mk (bb BK535.out hb); replace BK541 := Aside0.mk (bb BK541.out hb); replace BK547 := Aside0.mk (bb BK547.out hb); replace HB := Aside0.mk (below_step bl hb)
 (try clear hb)
 (try clear hb2)
 (try clear hk)
 (try clear hi)
 refine hK.out _ _ ⟨(blk_cell BK535.out 0).trans rfl, (blk_cell BK535.out 1).trans rfl, (blk_cell BK528.out 0).trans rfl, (blk_cell BK528.out 1).trans rfl, (blk_cell BK529.out 0).trans rfl, (blk_cell BK529.out 1).trans rfl, (blk_cell BK541.out 0).trans rfl, (blk_cell BK541.out 1).trans rfl, (blk_cell BK547.out 0).trans rfl, (blk_cell BK547.out 1).trans rfl, (blk_cell BK518.out 0).trans rfl, (blk_cell BK518.out 1).trans rfl, (blk_cell BK519.out 0).trans rfl, (blk_cell BK519.out 1).trans rfl⟩ (fun hHeld => ?_)
 clear hK K
 refine norm_ (a' := ?_) ?_ ?_
 rotate_left; focus (show Act.put _ (some 79) _ = _; simp only [Act.put, z1, z2, z3, i64_w, i32_w]; rfl)
 refine one_ (i := 33) (N := some 82) (zb 34 13) rfl rfl (one_of HT_.out (by kernel_rfl)) (by decide) (fun K hK => ?_)
 refine goes_ Try.func38 (by kernel_rfl) rfl #[.agg #[.bool t520, .slice Ao46 t521.length co46], .agg #[.bool t524, .slice Ao50 t525.length co50]] (by rfl) rfl rfl (by (try simp only [List.map_toArray, List.map_cons, List.map_nil]); first | done | rfl | (simp only [List.length_drop, List.length_take]; rfl)) ?_
 with_reducible refine (maskref4_Dec_Times.calls k t520 _ _ t521 t524 _ _ t525 t561 t562 _ ?side1 ?side2 ?side3 ?side4 A24.out).mono ?_
 (case side1 => exact kc ((Kd.V_reads' HO523.out).2.2))
 (case side2 => exact (Kd.V_reads' HO523.out).2.1)
 (case side3 => exact kc ((Kd.V_reads' HO527.out).2.2))
 (case side4 => exact (Kd.V_reads' HO527.out).2.1)
 rintro e w96 ⟨v563, rfl, ho0, hb⟩
 refine ⟨_, rfl, ?_⟩
 replace HO512 := Aside0.mk (vb HO512.out hb); replace HO516 := Aside0.mk (vb HO516.out hb); replace HO523 := Aside0.mk (vb HO523.out hb); replace HO527 := Aside0.mk (vb HO527.out hb); replace HO533 := Aside0.mk (vb HO533.out hb); replace HO539 := Aside0.mk (vb HO539.out hb); replace HO545 := Aside0.mk (vb HO545.out hb); replace HO552 := Aside0.mk (vb HO552.out hb); replace HO558 := Aside0.mk (vb HO558.out hb); have HO564 := Aside0.mk (Kd.V_lower (Kd.V_mono (ok' := fun k_ => k_ ≠ gb518 ∧ k_ ≠ gb519 ∧ k_ ≠ gb528 ∧ k_ ≠ gb529 ∧ k_ ≠ gb535 ∧ k_ ≠ gb541 ∧ k_ ≠ gb547) ho0 (fun k_ hk_ => ⟨(Kd.freshB (g := gb518) (o := .cells #[.bool t509, .slice Ao35 t510.length co35] 43 (0, 0)) (bk BK518.out) k_ hk_), (Kd.freshB (g := gb519) (o := .cells #[.bool t513, .slice Ao37 t514.length co37] 43 (0, 0)) (bk BK519.out) k_ hk_), (Kd.freshB (g := gb528) (o := .cells #[.bool t520, .slice Ao46 t521.length co46] 36 (0, 0)) (bk BK528.out) k_ hk_), (Kd.freshB (g := gb529) (o := .cells #[.bool t524, .slice Ao50 t525.length co50] 36 (0, 0)) (bk BK529.out) k_ hk_), (Kd.freshB (g := gb535) (o := .cells #[.bool t530, .slice Ao60 t531.length co60] 43 (0, 0)) (bk BK535.out) k_ hk_), (Kd.freshB (g := gb541) (o := .cells #[.bool t536, .slice Ao72 t537.length co72] 43 (0, 0)) (bk BK541.out) k_ hk_), (Kd.freshB (g := gb547) (o := .cells #[.bool t542, .slice Ao84 t543.length co84] 43 (0, 0)) (bk BK547.out) k_ hk_)⟩)) (below_size bl)); replace BK518 := Aside0.mk (bb BK518.out hb); replace BK519 := Aside0.mk (bb BK519.out hb); replace BK528 := Aside0.mk (bb BK528.out hb); replace BK529 := Aside0.mk (bb BK529.out hb); replace BK535 := Aside0.mk (bb BK535.out hb); replace BK541 := Aside0.mk (bb BK541.out hb); replace BK547 := Aside0.mk (bb BK547.out hb); replace HB := Aside0.mk (below_step bl hb)
 (try clear hb)
 (try clear hb2)
 (try clear hk)
 (try clear hi)
 (try clear ho0)
 obtain ⟨Ao97, co97, eo97⟩ := Kd.V_slice HO564.out
 (first | subst eo97 | (injection eo97 with f1_ f2_ f3_; have f4_ := f1_.symm; have f5_ := f3_.symm; clear f1_ f2_ f3_; subst f4_; subst f5_))
 refine hK.out _ _ ⟨(blk_cell BK535.out 0).trans rfl, (blk_cell BK535.out 1).trans rfl, (blk_cell BK528.out 0).trans rfl, (blk_cell BK528.out 1).trans rfl, (blk_cell BK529.out 0).trans rfl, (blk_cell BK529.out 1).trans rfl, (blk_cell BK541.out 0).trans rfl, (blk_cell BK541.out 1).trans rfl, (blk_cell BK547.out 0).trans rfl, (blk_cell BK547.out 1).trans rfl, (blk_cell BK518.out 0).trans rfl, (blk_cell BK518.out 1).trans rfl, (blk_cell BK519.out 0).trans rfl, (blk_cell BK519.out 1).trans rfl⟩ (fun hHeld => ?_)
 clear hK K
 refine norm_ (a' := ?_) ?_ ?_
 rotate_left; focus (show Act.put _ (some 82) _ = _; simp only [Act.put, z1, z2, z3, i64_w, i32_w]; rfl)
 refine one_ (i := 34) (N := some 83) (zb 35 12) rfl rfl (one_of HT_.out (by kernel_rfl)) (by decide) (fun K hK => ?_)
 refine goes_ Try.func26 (by kernel_rfl) rfl #[.agg #[.bool t561, .slice Ao97 t562.length co97]] (by rfl) rfl rfl (by (try simp only [List.map_toArray, List.map_cons, List.map_nil]); first | done | rfl | (simp only [List.length_drop, List.length_take]; rfl)) ?_
 with_reducible refine (maskref4_Dec_Text.calls k t561 _ _ t562 t565 _ ?side1 ?side2 A25.out).mono ?_
 (case side1 => exact kc ((Kd.V_reads' HO564.out).2.2))
 (case side2 => exact (Kd.V_reads' HO564.out).2.1)
 rintro e w98 ⟨rfl, hb⟩
 refine ⟨_, rfl, ?_⟩
 replace HO512 := Aside0.mk (vb HO512.out hb); replace HO516 := Aside0.mk (vb HO516.out hb); replace HO523 := Aside0.mk (vb HO523.out hb); replace HO527 := Aside0.mk (vb HO527.out hb); replace HO533 := Aside0.mk (vb HO533.out hb); replace HO539 := Aside0.mk (vb HO539.out hb); replace HO545 := Aside0.mk (vb HO545.out hb); replace HO552 := Aside0.mk (vb HO552.out hb); replace HO558 := Aside0.mk (vb HO558.out hb); replace HO564 := Aside0.mk (vb HO564.out hb); replace BK518 := Aside0.mk (bb BK518.out hb); replace BK519 := Aside0.mk (bb BK519.out hb); replace BK528 := Aside0.mk (bb BK528.out hb); replace BK529 := Aside0.mk (bb BK529.out hb); replace BK535 := Aside0.mk (bb BK535.out hb); replace BK541 := Aside0.mk (bb BK541.out hb); replace BK547 := Aside0.mk (bb BK547.out hb); replace HB := Aside0.mk (below_step bl hb)
 (try clear hb)
 (try clear hb2)
 (try clear hk)
 (try clear hi)
 refine hK.out _ _ ⟨(blk_cell BK535.out 0).trans rfl, (blk_cell BK535.out 1).trans rfl, (blk_cell BK528.out 0).trans rfl, (blk_cell BK528.out 1).trans rfl, (blk_cell BK529.out 0).trans rfl, (blk_cell BK529.out 1).trans rfl, (blk_cell BK541.out 0).trans rfl, (blk_cell BK541.out 1).trans rfl, (blk_cell BK547.out 0).trans rfl, (blk_cell BK547.out 1).trans rfl, (blk_cell BK518.out 0).trans rfl, (blk_cell BK518.out 1).trans rfl, (blk_cell BK519.out 0).trans rfl, (blk_cell BK519.out 1).trans rfl⟩ (fun hHeld => ?_)
 clear hK K
 refine norm_ (a' := ?_) ?_ ?_
 rotate_left; focus (show Act.put _ (some 83) _ = _; simp only [Act.put, z1, z2, z3, i64_w, i32_w]; rfl)
 refine pure_ (i := 35) (N := some 84) (v := ?_) (a' := ?_) (zb 36 11) rfl rfl (any_of HT_.out (by kernel_rfl)) (fun _ _ _ h => h) (Or.inl ⟨by rfl, ?_⟩) ?_ ?_
 rotate_left; focus (intro w'; go_simp; with_reducible rfl)
 rotate_left; focus (simp only [Act.put, z1, z2, z3, i64_w, i32_w]; rfl)
 refine pure_ (i := 36) (N := some 85) (v := ?_) (a' := ?_) (zb 37 10) rfl rfl (any_of HT_.out (by kernel_rfl)) (fun _ _ _ h => h) (Or.inl ⟨by rfl, ?_⟩) ?_ ?_
 rotate_left; focus (intro w'; go_simp; with_reducible rfl)
 rotate_left; focus (simp only [Act.put, z1, z2, z3, i64_w, i32_w]; rfl)
 refine pure_ (i := 37) (N := some 86) (v := ?_) (a' := ?_) (zb 38 9) rfl rfl (any_of HT_.out (by kernel_rfl)) (fun _ _ _ h => h) (Or.inl ⟨by rfl, ?_⟩) ?_ ?_
 rotate_left; focus (intro w'; go_simp; with_reducible rfl)
 rotate_left; focus (simp only [Act.put, z1, z2, z3, i64_w, i32_w]; rfl)
 refine take_ (i := 38) (N := some 87) (v := ?_) (a' := ?_) (zb 39 8) rfl rfl (take_ofW HT_.out HW_.out (by kernel_rfl)) (fun _ _ _ h => h) (Or.inl ⟨by rfl, ?_⟩) hHeld ?_ ?_
 rotate_left
 · rintro w' ⟨s0, s1, s2, s3, s4, s5, s6, s7, s8, s9, s10, s11, s12, s13⟩
   go_simp
   with_reducible rfl
 rotate_left; focus (simp only [Act.put, z1, z2, z3, i64_w, i32_w]; rfl)
 refine take_ (i := 39) (N := some 88) (v := ?_) (a' := ?_) (zb 40 7) rfl rfl (take_ofW HT_.out HW_.out (by kernel_rfl)) (fun _ _ _ h => h) (Or.inl ⟨by rfl, ?_⟩) hHeld ?_ ?_
 rotate_left
 · rintro w' ⟨s0, s1, s2, s3, s4, s5, s6, s7, s8, s9, s10, s11, s12, s13⟩
   go_simp
   with_reducible rfl
 rotate_left; focus (simp only [Act.put, z1, z2, z3, i64_w, i32_w]; rfl)
 refine take_ (i := 41) (N := some 90) (v := ?_) (a' := ?_) #[true,true,true,true,true,true,true,true,true,true,true,true,true,true,true,true,true,true,true,true,true,true,true,true,true,true,true,true,true,true,true,true,true,true,true,true,true,true,true,true,false,true,false,false,false,false,false] rfl rfl (take_ofW HT_.out HW_.out (by kernel_rfl)) (fun _ _ _ h => h) (Or.inl ⟨by rfl, ?_⟩) hHeld ?_ ?_
 rotate_left
 · rintro w' ⟨s0, s1, s2, s3, s4, s5, s6, s7, s8, s9, s10, s11, s12, s13⟩
   go_simp
   with_reducible rfl
 rotate_left; focus (simp only [Act.put, z1, z2, z3, i64_w, i32_w]; rfl)
 refine take_ (i := 42) (N := some 91) (v := ?_) (a' := ?_) #[true,true,true,true,true,true,true,true,true,true,true,true,true,true,true,true,true,true,true,true,true,true,true,true,true,true,true,true,true,true,true,true,true,true,true,true,true,true,true,true,false,true,true,false,false,false,false] rfl rfl (take_ofW HT_.out HW_.out (by kernel_rfl)) (fun _ _ _ h => h) (Or.inl ⟨by rfl, ?_⟩) hHeld ?_ ?_
 rotate_left
 · rintro w' ⟨s0, s1, s2, s3, s4, s5, s6, s7, s8, s9, s10, s11, s12, s13⟩
   go_simp
   with_reducible rfl
 rotate_left; focus (simp only [Act.put, z1, z2, z3, i64_w, i32_w]; rfl)
 refine one_ (i := 40) (N := some 89) (zb 43 4) rfl rfl (one_of HT_.out (by kernel_rfl)) (by decide) (fun K hK => ?_)
 refine goes_ Try.func31 (by kernel_rfl) rfl #[.agg #[.bool t509, .slice Ao35 t510.length co35], .agg #[.bool t513, .slice Ao37 t514.length co37]] (by rfl) rfl rfl (by (try simp only [List.map_toArray, List.map_cons, List.map_nil]); first | done | rfl | (simp only [List.length_drop, List.length_take]; rfl)) ?_
 with_reducible refine (exact_Cmp.calls k t509 _ _ t510 t513 _ _ t514 t566 _ ?side1 ?side2 ?side3 ?side4 A27.out).mono ?_
 (case side1 => exact kc ((Kd.V_reads' HO512.out).2.2))
 (case side2 => exact (Kd.V_reads' HO512.out).2.1)
 (case side3 => exact kc ((Kd.V_reads' HO516.out).2.2))
 (case side4 => exact (Kd.V_reads' HO516.out).2.1)
 rintro e w99 ⟨rfl, hb⟩
 refine ⟨_, rfl, ?_⟩
 replace HO512 := Aside0.mk (vb HO512.out hb); replace HO516 := Aside0.mk (vb HO516.out hb); replace HO523 := Aside0.mk (vb HO523.out hb); replace HO527 := Aside0.mk (vb HO527.out hb); replace HO533 := Aside0.mk (vb HO533.out hb); replace HO539 := Aside0.mk (vb HO539.out hb); replace HO545 := Aside0.mk (vb HO545.out hb); replace HO552 := Aside0.mk (vb HO552.out hb); replace HO558 := Aside0.mk (vb HO558.out hb); replace HO564 := Aside0.mk (vb HO564.out hb); replace BK518 := Aside0.mk (bb BK518.out hb); replace BK519 := Aside0.mk (bb BK519.out hb); replace BK528 := Aside0.mk (bb BK528.out hb); replace BK529 := Aside0.mk (bb BK529.out hb); replace BK535 := Aside0.mk (bb BK535.out hb); replace BK541 := Aside0.mk (bb BK541.out hb); replace BK547 := Aside0.mk (bb BK547.out hb); replace HB := Aside0.mk (below_step bl hb)
 (try clear hb)
 (try clear hb2)
 (try clear hk)
 (try clear hi)
 refine hK.out _ _ ⟨(blk_cell BK535.out 0).trans rfl, (blk_cell BK535.out 1).trans rfl, (blk_cell BK528.out 0).trans rfl, (blk_cell BK528.out 1).trans rfl, (blk_cell BK529.out 0).trans rfl, (blk_cell BK529.out 1).trans rfl, (blk_cell BK541.out 0).trans rfl, (blk_cell BK541.out 1).trans rfl, (blk_cell BK547.out 0).trans rfl, (blk_cell BK547.out 1).trans rfl, (blk_cell BK518.out 0).trans rfl, (blk_cell BK518.out 1).trans rfl, (blk_cell BK519.out 0).trans rfl, (blk_cell BK519.out 1).trans rfl⟩ (fun hHeld => ?_)
 clear hK K
 refine norm_ (a' := ?_) ?_ ?_
 rotate_left; focus (show Act.put _ (some 89) _ = _; simp only [Act.put, z1, z2, z3, i64_w, i32_w]; rfl)
 refine one_ (i := 43) (N := some 92) (zb 44 3) rfl rfl (one_of HT_.out (by kernel_rfl)) (by decide) (fun K hK => ?_)
 refine goes_ Try.func48 (by kernel_rfl) rfl #[.agg #[.bool t520, .slice Ao46 t521.length co46], .agg #[.bool t524, .slice Ao50 t525.length co50]] (by rfl) rfl rfl (by (try simp only [List.map_toArray, List.map_cons, List.map_nil]); first | done | rfl | (simp only [List.length_drop, List.length_take]; rfl)) ?_
 with_reducible refine (maskref4_DecCmp.calls k t520 _ _ t521 t524 _ _ t525 t567 _ ?side1 ?side2 ?side3 ?side4 A28.out).mono ?_
 (case side1 => exact kc ((Kd.V_reads' HO523.out).2.2))
 (case side2 => exact (Kd.V_reads' HO523.out).2.1)
 (case side3 => exact kc ((Kd.V_reads' HO527.out).2.2))
 (case side4 => exact (Kd.V_reads' HO527.out).2.1)
 rintro e w100 ⟨rfl, hb⟩
 refine ⟨_, rfl, ?_⟩
 have n0_ := Aside0.mk (vb HO512.out hb)
 have n1_ := Aside0.mk (vb HO516.out hb)
 have n2_ := Aside0.mk (vb HO523.out hb)
 have n3_ := Aside0.mk (vb HO527.out hb)
 have n4_ := Aside0.mk (vb HO533.out hb)
 have n5_ := Aside0.mk (vb HO539.out hb)
 have n6_ := Aside0.mk (vb HO545.out hb)
 have n7_ := Aside0.mk (vb HO552.out hb)
 have n8_ := Aside0.mk (vb HO558.out hb)
 have n9_ := Aside0.mk (vb HO564.out hb)
 have n10_ := Aside0.mk (bb BK518.out hb)
 have n11_ := Aside0.mk (bb BK519.out hb)
 have n12_ := Aside0.mk (bb BK528.out hb)
 have n13_ := Aside0.mk (bb BK529.out hb)
 have n14_ := Aside0.mk (bb BK535.out hb)
 have n15_ := Aside0.mk (bb BK541.out hb)
 have n16_ := Aside0.mk (bb BK547.out hb)
 have n17_ := Aside0.mk (below_step bl hb)
 clear HO512
 clear HO516
 clear HO523
 clear HO527
 clear HO533
 clear HO539
 clear HO545
 clear HO552
 clear HO558
 clear HO564
 clear BK518
 clear BK519
 clear BK528
 clear BK529
 clear BK535
 clear BK541
 clear BK547
 clear HB
 have BK518 := n10_
 have BK519 := n11_
 have BK528 := n12_
 have BK529 := n13_
 have BK535 := n14_
 have BK541 := n15_
 have BK547 := n16_
 have HB := n17_
 clear n0_ n1_ n2_ n3_ n4_ n5_ n6_ n7_ n8_ n9_ n10_ n11_ n12_ n13_ n14_ n15_ n16_ n17_
 (try clear hb)
 (try clear hb2)
 (try clear hk)
 (try clear hi)
 refine hK.out _ _ ⟨(blk_cell BK535.out 0).trans rfl, (blk_cell BK535.out 1).trans rfl, (blk_cell BK528.out 0).trans rfl, (blk_cell BK528.out 1).trans rfl, (blk_cell BK529.out 0).trans rfl, (blk_cell BK529.out 1).trans rfl, (blk_cell BK541.out 0).trans rfl, (blk_cell BK541.out 1).trans rfl, (blk_cell BK547.out 0).trans rfl, (blk_cell BK547.out 1).trans rfl, (blk_cell BK518.out 0).trans rfl, (blk_cell BK518.out 1).trans rfl, (blk_cell BK519.out 0).trans rfl, (blk_cell BK519.out 1).trans rfl⟩ (fun hHeld => ?_)
 clear hK K
 refine norm_ (a' := ?_) ?_ ?_
 rotate_left; focus (show Act.put _ (some 92) _ = _; simp only [Act.put, z1, z2, z3, i64_w, i32_w]; rfl)
 refine pure_ (i := 44) (N := some 93) (v := ?_) (a' := ?_) (zb 45 2) rfl rfl (any_of HT_.out (by kernel_rfl)) (fun _ _ _ h => h) (Or.inl ⟨by rfl, ?_⟩) ?_ ?_
 rotate_left; focus (intro w'; go_simp; with_reducible rfl)
 rotate_left; focus (simp only [Act.put, z1, z2, z3, i64_w, i32_w]; rfl)
 refine pure_ (i := 45) (N := some 94) (v := ?_) (a' := ?_) (zb 46 1) rfl rfl (any_of HT_.out (by kernel_rfl)) (fun _ _ _ h => h) (Or.inl ⟨by rfl, ?_⟩) ?_ ?_
 rotate_left; focus (intro w'; go_simp; with_reducible rfl)
 rotate_left; focus (simp only [Act.put, z1, z2, z3, i64_w, i32_w]; rfl)
 refine pure_ (i := 46) (N := some 4) (v := ?_) (a' := ?_) (zb 47 0) rfl rfl (any_of HT_.out (by kernel_rfl)) (fun _ _ _ h => h) (Or.inl ⟨by rfl, ?_⟩) ?_ ?_
 rotate_left; focus (intro w'; go_simp; with_reducible rfl)
 rotate_left; focus (simp only [Act.put, z1, z2, z3, i64_w, i32_w]; rfl)
 refine done_ (done_of HT_.out (by kernel_rfl)) ?_
 try go_wp2
 go_ret
 exact ⟨by first | rfl | (simp [errW_none, errW_some] <;> rfl) | (simp [*, errW_none, errW_some] <;> rfl), bl⟩

/-- THE ONE PURE STATEMENT of masklaw4_ExactAdds: yours. -/
def masklaw4_ExactAdds.Pure : Prop := ∀ (a0 : ByteArray) (a1 : ByteArray), a0.size ≤ 140737488351232 → a1.size ≤ 140737488351232 → ∃ k, masklaw4_ExactAdds.f k a0 a1 = some true
theorem masklaw4_ExactAdds.walk (P : masklaw4_ExactAdds.Pure) (a0 : ByteArray) (a1 : ByteArray) (w : World) (w0 : a0.size ≤ 140737488351232) (w1 : a1.size ≤ 140737488351232) :
 Calls Try.prog 8 #[.string a0, .string a1] w fun e w' => e = .returned (.bool true) ∧ Below w.heap.size w w' := by
 obtain ⟨k, h⟩ := P a0 a1 w0 w1
 refine (masklaw4_ExactAdds.calls k a0 a1 true w h).mono ?_
 rintro e w' ⟨rfl, hd⟩
 exact ⟨rfl, hd⟩

end Go.Proofs.Ytlbljdjbcbgnlaa.PX
