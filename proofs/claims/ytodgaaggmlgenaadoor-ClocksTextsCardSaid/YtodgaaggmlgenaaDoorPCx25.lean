-- PRINTED by print.py (a twelfth state) out of the translation. Not trusted: Lean checks it.
import Derived.Test.YtodgaaggmlgenaaDoorPCx0
import Derived.Test.YtodgaaggmlgenaaDoorPCx22
import Derived.Test.YtodgaaggmlgenaaDoorPCx23
import Derived.Test.YtodgaaggmlgenaaDoorPCx24
namespace Go.Proofs.YtodgaaggmlgenaaDoor.PC
open Go.RowKit Go.Proofs.YtodgaaggmlgenaaDoorW.PrintWords Go.Proofs.YtodgaaggmlgenaaDoorW.PrintLast Go.Proofs.YtodgaaggmlgenaaDoorW.PrintMore
attribute [local go_sem] max2_int min2_int max_two min_two max_three min_three max_four min_four   -- for this text's walks alone
set_option linter.unusedVariables false
set_option linter.unusedSimpArgs false

/-! ### maskref4_LimitsFault: function 14 -/
mutual
def maskref4_LimitsFault.j0 : Nat → Bool → Int → List (S51) → List (S53) → List (S49) → Option (Int)
 | 0, _, _, _, _, _ => none
 | k + 1, x32, x150000, x150001, x150002, x150003 => if x32 = true then (some 3) else (maskref4_LimitsFault.l0 k x150001 (x150001.length : Int) 0 x150000 x150001 x150002 x150003)
def maskref4_LimitsFault.l0 : Nat → List (S51) → Int → Int → Int → List (S51) → List (S53) → List (S49) → Option (Int)
 | 0, _, _, _, _, _, _, _ => none
 | k + 1, x34, x35, x36, x150000, x150001, x150002, x150003 => if x36 < x35 then (if 0 ≤ x36 then (if x36 < (x34.length : Int) then ((maskref4_name.f k ((rd_T51 x34 x36).f0)).bind fun t153 => (if t153 = true then (if ((rd_T51 x34 x36).f1.f0) < 0 then (maskref4_LimitsFault.j2 k x36 x34 x35 x36 true x150000 x150001 x150002 x150003 ((rd_T51 x34 x36).f0) ((rd_T51 x34 x36).f1.f0) ((rd_T51 x34 x36).f1.f1)) else (if ((rd_T51 x34 x36).f1.f0) > ((rd_T51 x34 x36).f1.f1) then (maskref4_LimitsFault.j2 k x36 x34 x35 x36 true x150000 x150001 x150002 x150003 ((rd_T51 x34 x36).f0) ((rd_T51 x34 x36).f1.f0) ((rd_T51 x34 x36).f1.f1)) else (maskref4_LimitsFault.j2 k x36 x34 x35 x36 (decide (((rd_T51 x34 x36).f1.f1) > 16777216)) x150000 x150001 x150002 x150003 ((rd_T51 x34 x36).f0) ((rd_T51 x34 x36).f1.f0) ((rd_T51 x34 x36).f1.f1)))) else (some 9))) else (none)) else (none)) else (maskref4_LimitsFault.l2 k x150002 (x150002.length : Int) 0 x150000 x150001 x150002 x150003)
def maskref4_LimitsFault.j2 : Nat → Int → List (S51) → Int → Int → Bool → Int → List (S51) → List (S53) → List (S49) → ByteArray → Int → Int → Option (Int)
 | 0, _, _, _, _, _, _, _, _, _, _, _, _ => none
 | k + 1, x3, x34, x35, x36, x63, x150000, x150001, x150002, x150003, x153000, x153001, x153002 => if x63 = true then (some 2) else (if 0 ≤ x3 then (if x3 ≤ (x150001.length : Int) then ((some (x150001.take (x3 : Int).toNat : List (S51))).bind fun y154 => (maskref4_LimitsFault.l1 k x34 x35 x36 y154 (y154.length : Int) 0 x150000 x150001 x150002 x150003 x153000 x153001 x153002)) else (none)) else (none))
def maskref4_LimitsFault.l1 : Nat → List (S51) → Int → Int → List (S51) → Int → Int → Int → List (S51) → List (S53) → List (S49) → ByteArray → Int → Int → Option (Int)
 | 0, _, _, _, _, _, _, _, _, _, _, _, _, _ => none
 | k + 1, x34, x35, x36, x67, x68, x69, x150000, x150001, x150002, x150003, x153000, x153001, x153002 => if x69 < x68 then (if 0 ≤ x69 then (if x69 < (x67.length : Int) then (if x153000.toList = ((rd_T51 x67 x69).f0).toList then (some 6) else (maskref4_LimitsFault.l1 k x34 x35 x36 x67 x68 (wrap64 (x69 + 1)) x150000 x150001 x150002 x150003 x153000 x153001 x153002)) else (none)) else (none)) else (maskref4_LimitsFault.l0 k x34 x35 (wrap64 (x36 + 1)) x150000 x150001 x150002 x150003)
def maskref4_LimitsFault.l2 : Nat → List (S53) → Int → Int → Int → List (S51) → List (S53) → List (S49) → Option (Int)
 | 0, _, _, _, _, _, _, _ => none
 | k + 1, x81, x82, x83, x150000, x150001, x150002, x150003 => if x83 < x82 then (if 0 ≤ x83 then (if x83 < (x81.length : Int) then ((maskref4_name.f k ((rd_T53 x81 x83).f0)).bind fun t162 => (if t162 = true then ((maskref4_In.f ((rd_T53 x81 x83).f1) 1 16777216).bind fun t163 => (if t163 = true then (if x83 ≤ (x150002.length : Int) then ((some (x150002.take (x83 : Int).toNat : List (S53))).bind fun y164 => (maskref4_LimitsFault.l3 k x81 x82 x83 y164 (y164.length : Int) 0 x150000 x150001 x150002 x150003 ((rd_T53 x81 x83).f0) ((rd_T53 x81 x83).f1))) else (none)) else (some 2))) else (some 9))) else (none)) else (none)) else (maskref4_LimitsFault.l4 k x150003 (x150003.length : Int) 0)
def maskref4_LimitsFault.l3 : Nat → List (S53) → Int → Int → List (S53) → Int → Int → Int → List (S51) → List (S53) → List (S49) → ByteArray → Int → Option (Int)
 | 0, _, _, _, _, _, _, _, _, _, _, _, _ => none
 | k + 1, x81, x82, x83, x99, x100, x101, x150000, x150001, x150002, x150003, x162000, x162001 => if x101 < x100 then (if 0 ≤ x101 then (if x101 < (x99.length : Int) then (if x162000.toList = ((rd_T53 x99 x101).f0).toList then (some 6) else (maskref4_LimitsFault.l3 k x81 x82 x83 x99 x100 (wrap64 (x101 + 1)) x150000 x150001 x150002 x150003 x162000 x162001)) else (none)) else (none)) else (maskref4_LimitsFault.l2 k x81 x82 (wrap64 (x83 + 1)) x150000 x150001 x150002 x150003)
def maskref4_LimitsFault.l4 : Nat → List (S49) → Int → Int → Option (Int)
 | 0, _, _, _ => none
 | k + 1, x113, x114, x115 => if x115 < x114 then (if 0 ≤ x115 then (if x115 < (x113.length : Int) then ((maskref4_Printed.f k ((rd_T49 x113 x115).f0)).bind fun t172 => (if t172 = true then ((maskref4_Printed.f k ((rd_T49 x113 x115).f1)).bind fun t173 => (maskref4_LimitsFault.j7 k x113 x114 x115 (!t173) ((rd_T49 x113 x115).f0) ((rd_T49 x113 x115).f1) ((rd_T49 x113 x115).f2))) else (maskref4_LimitsFault.j7 k x113 x114 x115 true ((rd_T49 x113 x115).f0) ((rd_T49 x113 x115).f1) ((rd_T49 x113 x115).f2)))) else (none)) else (none)) else (some 0)
def maskref4_LimitsFault.j7 : Nat → List (S49) → Int → Int → Bool → ByteArray → ByteArray → Int → Option (Int)
 | 0, _, _, _, _, _, _, _ => none
 | k + 1, x113, x114, x115, x128, x172000, x172001, x172002 => if x128 = true then (some 9) else (if x172002 = 0 then (maskref4_LimitsFault.l4 k x113 x114 (wrap64 (x115 + 1))) else ((maskref4_In.f x172002 2 16).bind fun t174 => (if t174 = true then (maskref4_LimitsFault.l4 k x113 x114 (wrap64 (x115 + 1))) else (some 2))))
end
def maskref4_LimitsFault.f (k : Nat) (a0_0 : Int) (l0_1 : List (S51)) (l0_2 : List (S53)) (l0_3 : List (S49)) : Option (Int) := (maskref4_In.f a0_0 1 67108864).bind fun t150 => (if t150 = true then (if (l0_1.length : Int) > 128 then (maskref4_LimitsFault.j0 k true a0_0 l0_1 l0_2 l0_3) else (if (l0_2.length : Int) > 128 then (maskref4_LimitsFault.j0 k true a0_0 l0_1 l0_2 l0_3) else (maskref4_LimitsFault.j0 k (decide ((l0_3.length : Int) > 64)) a0_0 l0_1 l0_2 l0_3))) else (some 2))
theorem maskref4_LimitsFault.mono_l : ∀ k, (∀ y0 y1 y2 y3 y4, LeO (maskref4_LimitsFault.j0 k y0 y1 y2 y3 y4) (maskref4_LimitsFault.j0 (k + 1) y0 y1 y2 y3 y4)) ∧ (∀ y0 y1 y2 y3 y4 y5 y6, LeO (maskref4_LimitsFault.l0 k y0 y1 y2 y3 y4 y5 y6) (maskref4_LimitsFault.l0 (k + 1) y0 y1 y2 y3 y4 y5 y6)) ∧ (∀ y0 y1 y2 y3 y4 y5 y6 y7 y8 y9 y10 y11, LeO (maskref4_LimitsFault.j2 k y0 y1 y2 y3 y4 y5 y6 y7 y8 y9 y10 y11) (maskref4_LimitsFault.j2 (k + 1) y0 y1 y2 y3 y4 y5 y6 y7 y8 y9 y10 y11)) ∧ (∀ y0 y1 y2 y3 y4 y5 y6 y7 y8 y9 y10 y11 y12, LeO (maskref4_LimitsFault.l1 k y0 y1 y2 y3 y4 y5 y6 y7 y8 y9 y10 y11 y12) (maskref4_LimitsFault.l1 (k + 1) y0 y1 y2 y3 y4 y5 y6 y7 y8 y9 y10 y11 y12)) ∧ (∀ y0 y1 y2 y3 y4 y5 y6, LeO (maskref4_LimitsFault.l2 k y0 y1 y2 y3 y4 y5 y6) (maskref4_LimitsFault.l2 (k + 1) y0 y1 y2 y3 y4 y5 y6)) ∧ (∀ y0 y1 y2 y3 y4 y5 y6 y7 y8 y9 y10 y11, LeO (maskref4_LimitsFault.l3 k y0 y1 y2 y3 y4 y5 y6 y7 y8 y9 y10 y11) (maskref4_LimitsFault.l3 (k + 1) y0 y1 y2 y3 y4 y5 y6 y7 y8 y9 y10 y11)) ∧ (∀ y0 y1 y2, LeO (maskref4_LimitsFault.l4 k y0 y1 y2) (maskref4_LimitsFault.l4 (k + 1) y0 y1 y2)) ∧ (∀ y0 y1 y2 y3 y4 y5 y6, LeO (maskref4_LimitsFault.j7 k y0 y1 y2 y3 y4 y5 y6) (maskref4_LimitsFault.j7 (k + 1) y0 y1 y2 y3 y4 y5 y6))
 | 0 => ⟨fun _ _ _ _ _ r h => by simp [maskref4_LimitsFault.j0] at h, fun _ _ _ _ _ _ _ r h => by simp [maskref4_LimitsFault.l0] at h, fun _ _ _ _ _ _ _ _ _ _ _ _ r h => by simp [maskref4_LimitsFault.j2] at h, fun _ _ _ _ _ _ _ _ _ _ _ _ _ r h => by simp [maskref4_LimitsFault.l1] at h, fun _ _ _ _ _ _ _ r h => by simp [maskref4_LimitsFault.l2] at h, fun _ _ _ _ _ _ _ _ _ _ _ _ r h => by simp [maskref4_LimitsFault.l3] at h, fun _ _ _ r h => by simp [maskref4_LimitsFault.l4] at h, fun _ _ _ _ _ _ _ r h => by simp [maskref4_LimitsFault.j7] at h⟩
 | k + 1 => by
  obtain ⟨ih0, ih1, ih2, ih3, ih4, ih5, ih6, ih7⟩ := maskref4_LimitsFault.mono_l k
  refine ⟨?_, ?_, ?_, ?_, ?_, ?_, ?_, ?_⟩
  · intro y0 y1 y2 y3 y4
    unfold maskref4_LimitsFault.j0
    repeat' first
    | (with_reducible exact ih0 _ _ _ _ _)
    | (with_reducible exact ih1 _ _ _ _ _ _ _)
    | (with_reducible exact ih2 _ _ _ _ _ _ _ _ _ _ _ _)
    | (with_reducible exact ih3 _ _ _ _ _ _ _ _ _ _ _ _ _)
    | (with_reducible exact ih4 _ _ _ _ _ _ _)
    | (with_reducible exact ih5 _ _ _ _ _ _ _ _ _ _ _ _)
    | (with_reducible exact ih6 _ _ _)
    | (with_reducible exact ih7 _ _ _ _ _ _ _)
    | (with_reducible exact maskref4_Printed.mono _ _)
    | (with_reducible exact maskref4_name.mono _ _)
    | (with_reducible exact LeO.refl _)
    | (with_reducible exact LeO.none _)
    | (with_reducible refine LeO.ite ?_ ?_)
    | (with_reducible refine LeO.bind ?_ (fun _ => ?_))
    | exact ih0 _ _ _ _ _
    | exact ih1 _ _ _ _ _ _ _
    | exact ih2 _ _ _ _ _ _ _ _ _ _ _ _
    | exact ih3 _ _ _ _ _ _ _ _ _ _ _ _ _
    | exact ih4 _ _ _ _ _ _ _
    | exact ih5 _ _ _ _ _ _ _ _ _ _ _ _
    | exact ih6 _ _ _
    | exact ih7 _ _ _ _ _ _ _
    | exact maskref4_Printed.mono _ _
    | exact maskref4_name.mono _ _
    | exact LeO.none _
    | refine LeO.ite ?_ ?_
    | refine LeO.bind ?_ (fun _ => ?_)
  · intro y0 y1 y2 y3 y4 y5 y6
    unfold maskref4_LimitsFault.l0
    repeat' first
    | (with_reducible exact ih0 _ _ _ _ _)
    | (with_reducible exact ih1 _ _ _ _ _ _ _)
    | (with_reducible exact ih2 _ _ _ _ _ _ _ _ _ _ _ _)
    | (with_reducible exact ih3 _ _ _ _ _ _ _ _ _ _ _ _ _)
    | (with_reducible exact ih4 _ _ _ _ _ _ _)
    | (with_reducible exact ih5 _ _ _ _ _ _ _ _ _ _ _ _)
    | (with_reducible exact ih6 _ _ _)
    | (with_reducible exact ih7 _ _ _ _ _ _ _)
    | (with_reducible exact maskref4_Printed.mono _ _)
    | (with_reducible exact maskref4_name.mono _ _)
    | (with_reducible exact LeO.refl _)
    | (with_reducible exact LeO.none _)
    | (with_reducible refine LeO.ite ?_ ?_)
    | (with_reducible refine LeO.bind ?_ (fun _ => ?_))
    | exact ih0 _ _ _ _ _
    | exact ih1 _ _ _ _ _ _ _
    | exact ih2 _ _ _ _ _ _ _ _ _ _ _ _
    | exact ih3 _ _ _ _ _ _ _ _ _ _ _ _ _
    | exact ih4 _ _ _ _ _ _ _
    | exact ih5 _ _ _ _ _ _ _ _ _ _ _ _
    | exact ih6 _ _ _
    | exact ih7 _ _ _ _ _ _ _
    | exact maskref4_Printed.mono _ _
    | exact maskref4_name.mono _ _
    | exact LeO.none _
    | refine LeO.ite ?_ ?_
    | refine LeO.bind ?_ (fun _ => ?_)
  · intro y0 y1 y2 y3 y4 y5 y6 y7 y8 y9 y10 y11
    unfold maskref4_LimitsFault.j2
    repeat' first
    | (with_reducible exact ih0 _ _ _ _ _)
    | (with_reducible exact ih1 _ _ _ _ _ _ _)
    | (with_reducible exact ih2 _ _ _ _ _ _ _ _ _ _ _ _)
    | (with_reducible exact ih3 _ _ _ _ _ _ _ _ _ _ _ _ _)
    | (with_reducible exact ih4 _ _ _ _ _ _ _)
    | (with_reducible exact ih5 _ _ _ _ _ _ _ _ _ _ _ _)
    | (with_reducible exact ih6 _ _ _)
    | (with_reducible exact ih7 _ _ _ _ _ _ _)
    | (with_reducible exact maskref4_Printed.mono _ _)
    | (with_reducible exact maskref4_name.mono _ _)
    | (with_reducible exact LeO.refl _)
    | (with_reducible exact LeO.none _)
    | (with_reducible refine LeO.ite ?_ ?_)
    | (with_reducible refine LeO.bind ?_ (fun _ => ?_))
    | exact ih0 _ _ _ _ _
    | exact ih1 _ _ _ _ _ _ _
    | exact ih2 _ _ _ _ _ _ _ _ _ _ _ _
    | exact ih3 _ _ _ _ _ _ _ _ _ _ _ _ _
    | exact ih4 _ _ _ _ _ _ _
    | exact ih5 _ _ _ _ _ _ _ _ _ _ _ _
    | exact ih6 _ _ _
    | exact ih7 _ _ _ _ _ _ _
    | exact maskref4_Printed.mono _ _
    | exact maskref4_name.mono _ _
    | exact LeO.none _
    | refine LeO.ite ?_ ?_
    | refine LeO.bind ?_ (fun _ => ?_)
  · intro y0 y1 y2 y3 y4 y5 y6 y7 y8 y9 y10 y11 y12
    unfold maskref4_LimitsFault.l1
    repeat' first
    | (with_reducible exact ih0 _ _ _ _ _)
    | (with_reducible exact ih1 _ _ _ _ _ _ _)
    | (with_reducible exact ih2 _ _ _ _ _ _ _ _ _ _ _ _)
    | (with_reducible exact ih3 _ _ _ _ _ _ _ _ _ _ _ _ _)
    | (with_reducible exact ih4 _ _ _ _ _ _ _)
    | (with_reducible exact ih5 _ _ _ _ _ _ _ _ _ _ _ _)
    | (with_reducible exact ih6 _ _ _)
    | (with_reducible exact ih7 _ _ _ _ _ _ _)
    | (with_reducible exact maskref4_Printed.mono _ _)
    | (with_reducible exact maskref4_name.mono _ _)
    | (with_reducible exact LeO.refl _)
    | (with_reducible exact LeO.none _)
    | (with_reducible refine LeO.ite ?_ ?_)
    | (with_reducible refine LeO.bind ?_ (fun _ => ?_))
    | exact ih0 _ _ _ _ _
    | exact ih1 _ _ _ _ _ _ _
    | exact ih2 _ _ _ _ _ _ _ _ _ _ _ _
    | exact ih3 _ _ _ _ _ _ _ _ _ _ _ _ _
    | exact ih4 _ _ _ _ _ _ _
    | exact ih5 _ _ _ _ _ _ _ _ _ _ _ _
    | exact ih6 _ _ _
    | exact ih7 _ _ _ _ _ _ _
    | exact maskref4_Printed.mono _ _
    | exact maskref4_name.mono _ _
    | exact LeO.none _
    | refine LeO.ite ?_ ?_
    | refine LeO.bind ?_ (fun _ => ?_)
  · intro y0 y1 y2 y3 y4 y5 y6
    unfold maskref4_LimitsFault.l2
    repeat' first
    | (with_reducible exact ih0 _ _ _ _ _)
    | (with_reducible exact ih1 _ _ _ _ _ _ _)
    | (with_reducible exact ih2 _ _ _ _ _ _ _ _ _ _ _ _)
    | (with_reducible exact ih3 _ _ _ _ _ _ _ _ _ _ _ _ _)
    | (with_reducible exact ih4 _ _ _ _ _ _ _)
    | (with_reducible exact ih5 _ _ _ _ _ _ _ _ _ _ _ _)
    | (with_reducible exact ih6 _ _ _)
    | (with_reducible exact ih7 _ _ _ _ _ _ _)
    | (with_reducible exact maskref4_Printed.mono _ _)
    | (with_reducible exact maskref4_name.mono _ _)
    | (with_reducible exact LeO.refl _)
    | (with_reducible exact LeO.none _)
    | (with_reducible refine LeO.ite ?_ ?_)
    | (with_reducible refine LeO.bind ?_ (fun _ => ?_))
    | exact ih0 _ _ _ _ _
    | exact ih1 _ _ _ _ _ _ _
    | exact ih2 _ _ _ _ _ _ _ _ _ _ _ _
    | exact ih3 _ _ _ _ _ _ _ _ _ _ _ _ _
    | exact ih4 _ _ _ _ _ _ _
    | exact ih5 _ _ _ _ _ _ _ _ _ _ _ _
    | exact ih6 _ _ _
    | exact ih7 _ _ _ _ _ _ _
    | exact maskref4_Printed.mono _ _
    | exact maskref4_name.mono _ _
    | exact LeO.none _
    | refine LeO.ite ?_ ?_
    | refine LeO.bind ?_ (fun _ => ?_)
  · intro y0 y1 y2 y3 y4 y5 y6 y7 y8 y9 y10 y11
    unfold maskref4_LimitsFault.l3
    repeat' first
    | (with_reducible exact ih0 _ _ _ _ _)
    | (with_reducible exact ih1 _ _ _ _ _ _ _)
    | (with_reducible exact ih2 _ _ _ _ _ _ _ _ _ _ _ _)
    | (with_reducible exact ih3 _ _ _ _ _ _ _ _ _ _ _ _ _)
    | (with_reducible exact ih4 _ _ _ _ _ _ _)
    | (with_reducible exact ih5 _ _ _ _ _ _ _ _ _ _ _ _)
    | (with_reducible exact ih6 _ _ _)
    | (with_reducible exact ih7 _ _ _ _ _ _ _)
    | (with_reducible exact maskref4_Printed.mono _ _)
    | (with_reducible exact maskref4_name.mono _ _)
    | (with_reducible exact LeO.refl _)
    | (with_reducible exact LeO.none _)
    | (with_reducible refine LeO.ite ?_ ?_)
    | (with_reducible refine LeO.bind ?_ (fun _ => ?_))
    | exact ih0 _ _ _ _ _
    | exact ih1 _ _ _ _ _ _ _
    | exact ih2 _ _ _ _ _ _ _ _ _ _ _ _
    | exact ih3 _ _ _ _ _ _ _ _ _ _ _ _ _
    | exact ih4 _ _ _ _ _ _ _
    | exact ih5 _ _ _ _ _ _ _ _ _ _ _ _
    | exact ih6 _ _ _
    | exact ih7 _ _ _ _ _ _ _
    | exact maskref4_Printed.mono _ _
    | exact maskref4_name.mono _ _
    | exact LeO.none _
    | refine LeO.ite ?_ ?_
    | refine LeO.bind ?_ (fun _ => ?_)
  · intro y0 y1 y2
    unfold maskref4_LimitsFault.l4
    repeat' first
    | (with_reducible exact ih0 _ _ _ _ _)
    | (with_reducible exact ih1 _ _ _ _ _ _ _)
    | (with_reducible exact ih2 _ _ _ _ _ _ _ _ _ _ _ _)
    | (with_reducible exact ih3 _ _ _ _ _ _ _ _ _ _ _ _ _)
    | (with_reducible exact ih4 _ _ _ _ _ _ _)
    | (with_reducible exact ih5 _ _ _ _ _ _ _ _ _ _ _ _)
    | (with_reducible exact ih6 _ _ _)
    | (with_reducible exact ih7 _ _ _ _ _ _ _)
    | (with_reducible exact maskref4_Printed.mono _ _)
    | (with_reducible exact maskref4_name.mono _ _)
    | (with_reducible exact LeO.refl _)
    | (with_reducible exact LeO.none _)
    | (with_reducible refine LeO.ite ?_ ?_)
    | (with_reducible refine LeO.bind ?_ (fun _ => ?_))
    | exact ih0 _ _ _ _ _
    | exact ih1 _ _ _ _ _ _ _
    | exact ih2 _ _ _ _ _ _ _ _ _ _ _ _
    | exact ih3 _ _ _ _ _ _ _ _ _ _ _ _ _
    | exact ih4 _ _ _ _ _ _ _
    | exact ih5 _ _ _ _ _ _ _ _ _ _ _ _
    | exact ih6 _ _ _
    | exact ih7 _ _ _ _ _ _ _
    | exact maskref4_Printed.mono _ _
    | exact maskref4_name.mono _ _
    | exact LeO.none _
    | refine LeO.ite ?_ ?_
    | refine LeO.bind ?_ (fun _ => ?_)
  · intro y0 y1 y2 y3 y4 y5 y6
    unfold maskref4_LimitsFault.j7
    repeat' first
    | (with_reducible exact ih0 _ _ _ _ _)
    | (with_reducible exact ih1 _ _ _ _ _ _ _)
    | (with_reducible exact ih2 _ _ _ _ _ _ _ _ _ _ _ _)
    | (with_reducible exact ih3 _ _ _ _ _ _ _ _ _ _ _ _ _)
    | (with_reducible exact ih4 _ _ _ _ _ _ _)
    | (with_reducible exact ih5 _ _ _ _ _ _ _ _ _ _ _ _)
    | (with_reducible exact ih6 _ _ _)
    | (with_reducible exact ih7 _ _ _ _ _ _ _)
    | (with_reducible exact maskref4_Printed.mono _ _)
    | (with_reducible exact maskref4_name.mono _ _)
    | (with_reducible exact LeO.refl _)
    | (with_reducible exact LeO.none _)
    | (with_reducible refine LeO.ite ?_ ?_)
    | (with_reducible refine LeO.bind ?_ (fun _ => ?_))
    | exact ih0 _ _ _ _ _
    | exact ih1 _ _ _ _ _ _ _
    | exact ih2 _ _ _ _ _ _ _ _ _ _ _ _
    | exact ih3 _ _ _ _ _ _ _ _ _ _ _ _ _
    | exact ih4 _ _ _ _ _ _ _
    | exact ih5 _ _ _ _ _ _ _ _ _ _ _ _
    | exact ih6 _ _ _
    | exact ih7 _ _ _ _ _ _ _
    | exact maskref4_Printed.mono _ _
    | exact maskref4_name.mono _ _
    | exact LeO.none _
    | refine LeO.ite ?_ ?_
    | refine LeO.bind ?_ (fun _ => ?_)
theorem maskref4_LimitsFault.mono : ∀ a0 a1 a2 a3 k, LeO (maskref4_LimitsFault.f k a0 a1 a2 a3) (maskref4_LimitsFault.f (k + 1) a0 a1 a2 a3) := by
 intro a0 a1 a2 a3 k
 obtain ⟨ih0, ih1, ih2, ih3, ih4, ih5, ih6, ih7⟩ := maskref4_LimitsFault.mono_l k
 unfold maskref4_LimitsFault.f
 repeat' first
  | (with_reducible exact ih0 _ _ _ _ _)
  | (with_reducible exact ih1 _ _ _ _ _ _ _)
  | (with_reducible exact ih2 _ _ _ _ _ _ _ _ _ _ _ _)
  | (with_reducible exact ih3 _ _ _ _ _ _ _ _ _ _ _ _ _)
  | (with_reducible exact ih4 _ _ _ _ _ _ _)
  | (with_reducible exact ih5 _ _ _ _ _ _ _ _ _ _ _ _)
  | (with_reducible exact ih6 _ _ _)
  | (with_reducible exact ih7 _ _ _ _ _ _ _)
  | (with_reducible exact maskref4_Printed.mono _ _)
  | (with_reducible exact maskref4_name.mono _ _)
  | (with_reducible exact LeO.refl _)
  | (with_reducible exact LeO.none _)
  | (with_reducible refine LeO.ite ?_ ?_)
  | (with_reducible refine LeO.bind ?_ (fun _ => ?_))
  | exact ih0 _ _ _ _ _
  | exact ih1 _ _ _ _ _ _ _
  | exact ih2 _ _ _ _ _ _ _ _ _ _ _ _
  | exact ih3 _ _ _ _ _ _ _ _ _ _ _ _ _
  | exact ih4 _ _ _ _ _ _ _
  | exact ih5 _ _ _ _ _ _ _ _ _ _ _ _
  | exact ih6 _ _ _
  | exact ih7 _ _ _ _ _ _ _
  | exact maskref4_Printed.mono _ _
  | exact maskref4_name.mono _ _
  | exact LeO.none _
  | refine LeO.ite ?_ ?_
  | refine LeO.bind ?_ (fun _ => ?_)
set_option maxHeartbeats 8000000 in
set_option maxRecDepth 100000 in
theorem maskref4_LimitsFault.calls (k : Nat) (a0_0 : Int) (A0_1 : Option Addr) (c0_1 : Nat) (l0_1 : List (S51)) (A0_2 : Option Addr) (c0_2 : Nat) (l0_2 : List (S53)) (A0_3 : Option Addr) (c0_3 : Nat) (l0_3 : List (S49)) (r : Int) (w : World) (hr0_1 : Kd.C k51 w A0_1 l0_1.length l0_1) (hc0_1 : l0_1.length ≤ c0_1) (hr0_2 : Kd.C k53 w A0_2 l0_2.length l0_2) (hc0_2 : l0_2.length ≤ c0_2) (hr0_3 : Kd.C k49 w A0_3 l0_3.length l0_3) (hc0_3 : l0_3.length ≤ c0_3) (h : maskref4_LimitsFault.f k a0_0 l0_1 l0_2 l0_3 = some r) :
 Calls Tryd.prog 14 #[.agg #[.int .i64 a0_0, .slice A0_1 l0_1.length c0_1, .slice A0_2 l0_2.length c0_2, .slice A0_3 l0_3.length c0_3]] w fun e w' => e = .returned (.int .i64 r) ∧ Below w.heap.size w w' := by
 have hu26 := Tryd.underlying26
 have hu51 := Tryd.underlying51
 have hu53 := Tryd.underlying53
 have hu49 := Tryd.underlying49
 have HR0_1 := Aside0.mk hr0_1
 have HC0_1 := Aside0.mk hc0_1
 clear hr0_1 hc0_1
 have HR0_2 := Aside0.mk hr0_2
 have HC0_2 := Aside0.mk hc0_2
 clear hr0_2 hc0_2
 have HR0_3 := Aside0.mk hr0_3
 have HC0_3 := Aside0.mk hc0_3
 clear hr0_3 hc0_3
 have HB := Aside0.mk (Below.refl w.heap.size w)
 have H : ((maskref4_In.f a0_0 1 67108864).bind fun t150 => (if t150 = true then (if (l0_1.length : Int) > 128 then (maskref4_LimitsFault.j0 k true a0_0 l0_1 l0_2 l0_3) else (if (l0_2.length : Int) > 128 then (maskref4_LimitsFault.j0 k true a0_0 l0_1 l0_2 l0_3) else (maskref4_LimitsFault.j0 k (decide ((l0_3.length : Int) > 64)) a0_0 l0_1 l0_2 l0_3))) else (some 2))) = some r := h
 clear h
 replace H := Option.bind_eq_some_iff.mp H
 obtain ⟨t150, A20, H⟩ := H
 replace H : (if t150 = true then (if (l0_1.length : Int) > 128 then (maskref4_LimitsFault.j0 k true a0_0 l0_1 l0_2 l0_3) else (if (l0_2.length : Int) > 128 then (maskref4_LimitsFault.j0 k true a0_0 l0_1 l0_2 l0_3) else (maskref4_LimitsFault.j0 k (decide ((l0_3.length : Int) > 64)) a0_0 l0_1 l0_2 l0_3))) else (some 2)) = some r := H
 have A2 := Aside0.mk A20
 clear A20
 by_cases c3 : t150 = true
 · subst c3
   have H1 : (if (l0_1.length : Int) > 128 then (maskref4_LimitsFault.j0 k true a0_0 l0_1 l0_2 l0_3) else (if (l0_2.length : Int) > 128 then (maskref4_LimitsFault.j0 k true a0_0 l0_1 l0_2 l0_3) else (maskref4_LimitsFault.j0 k (decide ((l0_3.length : Int) > 64)) a0_0 l0_1 l0_2 l0_3))) = some r := by rw [if_pos rfl] at H; exact H
   clear H
   have H := H1
   clear H1
   have HC4 := Aside0.mk H
   clear H
   go_enter Tryd.func14, Tryd.ntmps14
   go_upto_region 3 with (first | ((with_reducible refine gate_dst (N := 1) rfl ?_); (try (refine gate_guard (by rfl) ?_; dsimp only)); refine box_event ?hg (N := 1) ?hd (cs := #[.int .i64 a0_0, .slice A0_1 l0_1.length c0_1, .slice A0_2 l0_2.length c0_2, .slice A0_3 l0_3.length c0_3]) (t := 26) ?hr ?_; (case hd => rfl); (case hg => rfl); (case hr => first | (go_simp; done) | (go_simp; rfl)); intro gb149 hg w5 hbox hb; have n0_ := Aside0.mk (below_step (by repeat (first | (with_reducible first | exact HB.out | apply below_alloc | apply pw_below_drewN | apply below_drew1) | exact HB.out)) hb); have n1_ := Aside0.mk (hbox); have n2_ := Aside0.mk ((by rw [hg]; exact (below_size (by repeat (first | (with_reducible first | exact HB.out | apply below_alloc | apply pw_below_drewN | apply below_drew1) | exact HB.out))) : w.heap.size ≤ gb149)); have n3_ := Aside0.mk ((by rw [hg]; exact (below_size (by repeat (first | (with_reducible first | exact HB.out | apply below_alloc | apply pw_below_drewN | apply below_drew1) | exact HB.out))) : w.heap.size ≤ gb149)); clear HB; have HB := n0_; have BK149 := n1_; have GW149 := n2_; have GE149 := n3_; clear n0_ n1_ n2_ n3_; clear hb hbox hg; have hcz6_0 : w5.cell? ⟨gb149, 0, none⟩ = some (.int .i64 a0_0) := (blk_cell BK149.out 0).trans rfl; have hcz6_1 : w5.cell? ⟨gb149, 1, none⟩ = some (.slice A0_1 l0_1.length c0_1) := (blk_cell BK149.out 1).trans rfl; have hcz6_2 : w5.cell? ⟨gb149, 2, none⟩ = some (.slice A0_2 l0_2.length c0_2) := (blk_cell BK149.out 2).trans rfl; have hcz6_3 : w5.cell? ⟨gb149, 3, none⟩ = some (.slice A0_3 l0_3.length c0_3) := (blk_cell BK149.out 3).trans rfl; have hfz6_0 := blk_frozen BK149.out 0; have hfz6_1 := blk_frozen BK149.out 1; have hfz6_2 := blk_frozen BK149.out 2; have hfz6_3 := blk_frozen BK149.out 3) | ((with_reducible refine gate_callee (f := 21) rfl ?_); refine goesL_ (some 15) rfl rfl Tryd.func21 (by kernel_rfl) rfl #[.int .i64 a0_0, .int .i64 1, .int .i64 67108864] rfl (by (try simp only [List.map_toArray, List.map_cons, List.map_nil]); first | done | rfl | (simp only [List.length_drop, List.length_take]; rfl)) ?_; (with_reducible refine (maskref4_In.calls a0_0 1 67108864 true _ A2.out).mono ?_); rintro e w' ⟨rfl, ⟨nd, rfl⟩⟩; refine ⟨_, rfl, ?_⟩))
   (try simp only [Act.put, List.setIfInBounds_toArray, List.set_cons_zero, List.set_cons_succ])
   go_cut [32] (fun v32 wc => ∃ (kq : Nat) (x32_3 : Bool), v32 = .bool x32_3 ∧ Aside0 (maskref4_LimitsFault.j0 kq x32_3 a0_0 l0_1 l0_2 l0_3 = some r) ∧ Aside0 (kq ≤ k) ∧ Aside0 (wc.heap[gb149]? = some (.cells #[.int .i64 a0_0, (.slice A0_1 l0_1.length c0_1), (.slice A0_2 l0_2.length c0_2), (.slice A0_3 l0_3.length c0_3)] 26 (0, 0))) ∧ Aside0 (Below w.heap.size w wc))
   case first =>
    have H := HC4.out
    clear HC4
    by_cases c7 : (l0_1.length : Int) > 128
    · rw [if_pos c7] at H
      have c7b0 : decide (128 < (l0_1.length : Int)) = true := decide_eq_true c7
      have c7b1 : decide (128 < l0_1.length) = true := decide_eq_true (by omega)
      clear c7
      (first | rw [c7b0] | (simp only [i64_w, i32_w]; rw [c7b0]) | skip)
      have H' := Aside0.mk H
      clear H
      have hcz8_0 : w5.cell? ⟨gb149, 0, none⟩ = some (.int .i64 a0_0) := (blk_cell BK149.out 0).trans rfl
      have hcz8_1 : w5.cell? ⟨gb149, 1, none⟩ = some (.slice A0_1 l0_1.length c0_1) := (blk_cell BK149.out 1).trans rfl
      have hcz8_2 : w5.cell? ⟨gb149, 2, none⟩ = some (.slice A0_2 l0_2.length c0_2) := (blk_cell BK149.out 2).trans rfl
      have hcz8_3 : w5.cell? ⟨gb149, 3, none⟩ = some (.slice A0_3 l0_3.length c0_3) := (blk_cell BK149.out 3).trans rfl
      have hfz8_0 := blk_frozen BK149.out 0
      have hfz8_1 := blk_frozen BK149.out 1
      have hfz8_2 := blk_frozen BK149.out 2
      have hfz8_3 := blk_frozen BK149.out 3
      go_wp2
      go_meet
      case rel => exact ⟨_, (true), (by first | rfl | (simp; done) | (simp [*]; done)), H', ⟨by first | omega | exact Nat.le_refl _⟩, ⟨by (with_reducible repeat (first | refine blk_drewN ?_ _ | refine blk_drew ?_ | refine blk_alloc ?_ _)); exact BK149.out⟩, ⟨by repeat (first | (with_reducible first | exact HB.out | apply below_alloc | apply pw_below_drewN | apply below_drew1 | refine below_set ?_ GE149.out) | exact HB.out)⟩⟩
    · rw [if_neg c7] at H
      have c7b0 : decide (128 < (l0_1.length : Int)) = false := decide_eq_false c7
      have c7b1 : decide (128 < l0_1.length) = false := decide_eq_false (by omega)
      clear c7
      (first | rw [c7b0] | (simp only [i64_w, i32_w]; rw [c7b0]) | skip)
      by_cases c9 : (l0_2.length : Int) > 128
      · rw [if_pos c9] at H
        have c9b0 : decide (128 < (l0_2.length : Int)) = true := decide_eq_true c9
        have c9b1 : decide (128 < l0_2.length) = true := decide_eq_true (by omega)
        clear c9
        have H' := Aside0.mk H
        clear H
        have hcz10_0 : w5.cell? ⟨gb149, 0, none⟩ = some (.int .i64 a0_0) := (blk_cell BK149.out 0).trans rfl
        have hcz10_1 : w5.cell? ⟨gb149, 1, none⟩ = some (.slice A0_1 l0_1.length c0_1) := (blk_cell BK149.out 1).trans rfl
        have hcz10_2 : w5.cell? ⟨gb149, 2, none⟩ = some (.slice A0_2 l0_2.length c0_2) := (blk_cell BK149.out 2).trans rfl
        have hcz10_3 : w5.cell? ⟨gb149, 3, none⟩ = some (.slice A0_3 l0_3.length c0_3) := (blk_cell BK149.out 3).trans rfl
        have hfz10_0 := blk_frozen BK149.out 0
        have hfz10_1 := blk_frozen BK149.out 1
        have hfz10_2 := blk_frozen BK149.out 2
        have hfz10_3 := blk_frozen BK149.out 3
        go_wp2
        go_meet
        case rel => exact ⟨_, (true), (by first | rfl | (simp; done) | (simp [*]; done)), H', ⟨by first | omega | exact Nat.le_refl _⟩, ⟨by (with_reducible repeat (first | refine blk_drewN ?_ _ | refine blk_drew ?_ | refine blk_alloc ?_ _)); exact BK149.out⟩, ⟨by repeat (first | (with_reducible first | exact HB.out | apply below_alloc | apply pw_below_drewN | apply below_drew1 | refine below_set ?_ GE149.out) | exact HB.out)⟩⟩
      · rw [if_neg c9] at H
        have c9b0 : decide (128 < (l0_2.length : Int)) = false := decide_eq_false c9
        have c9b1 : decide (128 < l0_2.length) = false := decide_eq_false (by omega)
        clear c9
        have H' := Aside0.mk H
        clear H
        have hcz11_0 : w5.cell? ⟨gb149, 0, none⟩ = some (.int .i64 a0_0) := (blk_cell BK149.out 0).trans rfl
        have hcz11_1 : w5.cell? ⟨gb149, 1, none⟩ = some (.slice A0_1 l0_1.length c0_1) := (blk_cell BK149.out 1).trans rfl
        have hcz11_2 : w5.cell? ⟨gb149, 2, none⟩ = some (.slice A0_2 l0_2.length c0_2) := (blk_cell BK149.out 2).trans rfl
        have hcz11_3 : w5.cell? ⟨gb149, 3, none⟩ = some (.slice A0_3 l0_3.length c0_3) := (blk_cell BK149.out 3).trans rfl
        have hfz11_0 := blk_frozen BK149.out 0
        have hfz11_1 := blk_frozen BK149.out 1
        have hfz11_2 := blk_frozen BK149.out 2
        have hfz11_3 := blk_frozen BK149.out 3
        go_wp2
        go_meet
        case rel => exact ⟨_, (decide ((l0_3.length : Int) > 64)), (by first | rfl | (simp; done) | (simp [*]; done)), H', ⟨by first | omega | exact Nat.le_refl _⟩, ⟨by (with_reducible repeat (first | refine blk_drewN ?_ _ | refine blk_drew ?_ | refine blk_alloc ?_ _)); exact BK149.out⟩, ⟨by repeat (first | (with_reducible first | exact HB.out | apply below_alloc | apply pw_below_drewN | apply below_drew1 | refine below_set ?_ GE149.out) | exact HB.out)⟩⟩
   case rest =>
    clear HC4
    try clear c1
    try clear c2
    try clear p2
    try clear c3
    try clear c7
    try clear c7b0
    try clear c7b1
    try clear c9
    try clear c9b0
    try clear c9b1
    try clear hcz10_0
    try clear hcz10_1
    try clear hcz10_2
    try clear hcz10_3
    try clear hcz11_0
    try clear hcz11_1
    try clear hcz11_2
    try clear hcz11_3
    try clear hcz6_0
    try clear hcz6_1
    try clear hcz6_2
    try clear hcz6_3
    try clear hcz8_0
    try clear hcz8_1
    try clear hcz8_2
    try clear hcz8_3
    try clear hfz10_0
    try clear hfz10_1
    try clear hfz10_2
    try clear hfz10_3
    try clear hfz11_0
    try clear hfz11_1
    try clear hfz11_2
    try clear hfz11_3
    try clear hfz6_0
    try clear hfz6_1
    try clear hfz6_2
    try clear hfz6_3
    try clear hfz8_0
    try clear hfz8_1
    try clear hfz8_2
    try clear hfz8_3
    obtain ⟨kq, x32_3, rfl, HA, HJ3, BK149, HB⟩ := hcut
    cases kq with
    | zero => exact absurd HA.out (by simp [maskref4_LimitsFault.j0])
    | succ kj3 =>
     have H := HA.out
     clear HA
     simp only [maskref4_LimitsFault.j0] at H
     by_cases c12 : x32_3 = true
     · subst c12
       have H1 : (some 3) = some r := by rw [if_pos rfl] at H; exact H
       clear H
       have H := H1
       clear H1
       obtain rfl := Option.some.inj H
       go_wp2
       go_ret
       exact ⟨by first | rfl | (simp [errW_none, errW_some] <;> rfl) | (simp [*, errW_none, errW_some] <;> rfl), by repeat (first | (with_reducible first | exact HB.out | apply below_alloc | apply pw_below_drewN | apply below_drew1 | refine below_set ?_ GE149.out) | exact HB.out)⟩
     · replace c12 := Bool.eq_false_iff.mpr c12
       subst c12
       have H1 : (maskref4_LimitsFault.l0 kj3 l0_1 (l0_1.length : Int) 0 a0_0 l0_1 l0_2 l0_3) = some r := by rw [if_neg (show ¬ (false = true) by decide)] at H; exact H
       clear H
       have H := H1
       clear H1
       have H' := Aside0.mk H
       clear H
       have hcz13_0 : wc.cell? ⟨gb149, 0, none⟩ = some (.int .i64 a0_0) := (blk_cell BK149.out 0).trans rfl
       have hcz13_1 : wc.cell? ⟨gb149, 1, none⟩ = some (.slice A0_1 l0_1.length c0_1) := (blk_cell BK149.out 1).trans rfl
       have hcz13_2 : wc.cell? ⟨gb149, 2, none⟩ = some (.slice A0_2 l0_2.length c0_2) := (blk_cell BK149.out 2).trans rfl
       have hcz13_3 : wc.cell? ⟨gb149, 3, none⟩ = some (.slice A0_3 l0_3.length c0_3) := (blk_cell BK149.out 3).trans rfl
       have hfz13_0 := blk_frozen BK149.out 0
       have hfz13_1 := blk_frozen BK149.out 1
       have hfz13_2 := blk_frozen BK149.out 2
       have hfz13_3 := blk_frozen BK149.out 3
       go_wp2
       go_loopg [36] kj3 (fun kq v36 w' => ∃ (x36_2 : Int), v36 = .int .i64 x36_2 ∧ Aside0 (maskref4_LimitsFault.l0 kq l0_1 (l0_1.length : Int) x36_2 a0_0 l0_1 l0_2 l0_3 = some r) ∧ Aside0 (kq ≤ kj3) ∧ Aside0 (w'.heap[gb149]? = some (.cells #[.int .i64 a0_0, (.slice A0_1 l0_1.length c0_1), (.slice A0_2 l0_2.length c0_2), (.slice A0_3 l0_3.length c0_3)] 26 (0, 0))) ∧ Aside0 (Below w.heap.size w w'))
       case atStart => exact ⟨(0), (by first | rfl | (simp; done) | (simp [*]; done)), H', ⟨Nat.le_refl _⟩, ⟨by (with_reducible repeat (first | refine blk_drewN ?_ _ | refine blk_drew ?_ | refine blk_alloc ?_ _)); exact BK149.out⟩, ⟨by repeat (first | (with_reducible first | exact HB.out | apply below_alloc | apply pw_below_drewN | apply below_drew1 | refine below_set ?_ GE149.out) | exact HB.out)⟩⟩
       case round =>
        clear H'
        try clear c1
        try clear c2
        try clear p2
        try clear c3
        try clear c7
        try clear c7b0
        try clear c7b1
        try clear c9
        try clear c9b0
        try clear c9b1
        try clear c12
        try clear hcz10_0
        try clear hcz10_1
        try clear hcz10_2
        try clear hcz10_3
        try clear hcz11_0
        try clear hcz11_1
        try clear hcz11_2
        try clear hcz11_3
        try clear hcz13_0
        try clear hcz13_1
        try clear hcz13_2
        try clear hcz13_3
        try clear hcz6_0
        try clear hcz6_1
        try clear hcz6_2
        try clear hcz6_3
        try clear hcz8_0
        try clear hcz8_1
        try clear hcz8_2
        try clear hcz8_3
        try clear hfz10_0
        try clear hfz10_1
        try clear hfz10_2
        try clear hfz10_3
        try clear hfz11_0
        try clear hfz11_1
        try clear hfz11_2
        try clear hfz11_3
        try clear hfz13_0
        try clear hfz13_1
        try clear hfz13_2
        try clear hfz13_3
        try clear hfz6_0
        try clear hfz6_1
        try clear hfz6_2
        try clear hfz6_3
        try clear hfz8_0
        try clear hfz8_1
        try clear hfz8_2
        try clear hfz8_3
        try clear p2
        obtain ⟨x36_2, rfl, HA, HK2, BK149, HB⟩ := hrel
        cases gk with
        | zero => exact absurd HA.out (by simp [maskref4_LimitsFault.l0])
        | succ k2 =>
         have H := HA.out
         clear HA
         simp only [maskref4_LimitsFault.l0] at H
         by_cases c14 : x36_2 < (l0_1.length : Int)
         · rw [if_pos c14] at H
           have c14b0 : decide (x36_2 < (l0_1.length : Int)) = true := decide_eq_true c14
           clear c14
           by_cases c15 : 0 ≤ x36_2
           · rw [if_pos c15] at H
             have c15b0 : decide (0 ≤ x36_2) = true := decide_eq_true c15
             clear c15
             by_cases c16 : x36_2 < (l0_1.length : Int)
             · rw [if_pos c16] at H
               have c16b0 : decide (x36_2 < (l0_1.length : Int)) = true := decide_eq_true c16
               clear c16
               replace H := Option.bind_eq_some_iff.mp H
               obtain ⟨t153, A170, H⟩ := H
               replace H : (if t153 = true then (if ((rd_T51 l0_1 x36_2).f1.f0) < 0 then (maskref4_LimitsFault.j2 k2 x36_2 l0_1 (l0_1.length : Int) x36_2 true a0_0 l0_1 l0_2 l0_3 ((rd_T51 l0_1 x36_2).f0) ((rd_T51 l0_1 x36_2).f1.f0) ((rd_T51 l0_1 x36_2).f1.f1)) else (if ((rd_T51 l0_1 x36_2).f1.f0) > ((rd_T51 l0_1 x36_2).f1.f1) then (maskref4_LimitsFault.j2 k2 x36_2 l0_1 (l0_1.length : Int) x36_2 true a0_0 l0_1 l0_2 l0_3 ((rd_T51 l0_1 x36_2).f0) ((rd_T51 l0_1 x36_2).f1.f0) ((rd_T51 l0_1 x36_2).f1.f1)) else (maskref4_LimitsFault.j2 k2 x36_2 l0_1 (l0_1.length : Int) x36_2 (decide (((rd_T51 l0_1 x36_2).f1.f1) > 16777216)) a0_0 l0_1 l0_2 l0_3 ((rd_T51 l0_1 x36_2).f0) ((rd_T51 l0_1 x36_2).f1.f0) ((rd_T51 l0_1 x36_2).f1.f1)))) else (some 9)) = some r := H
               have A17 := Aside0.mk A170
               clear A170
               by_cases c18 : t153 = true
               · subst c18
                 have H1 : (if ((rd_T51 l0_1 x36_2).f1.f0) < 0 then (maskref4_LimitsFault.j2 k2 x36_2 l0_1 (l0_1.length : Int) x36_2 true a0_0 l0_1 l0_2 l0_3 ((rd_T51 l0_1 x36_2).f0) ((rd_T51 l0_1 x36_2).f1.f0) ((rd_T51 l0_1 x36_2).f1.f1)) else (if ((rd_T51 l0_1 x36_2).f1.f0) > ((rd_T51 l0_1 x36_2).f1.f1) then (maskref4_LimitsFault.j2 k2 x36_2 l0_1 (l0_1.length : Int) x36_2 true a0_0 l0_1 l0_2 l0_3 ((rd_T51 l0_1 x36_2).f0) ((rd_T51 l0_1 x36_2).f1.f0) ((rd_T51 l0_1 x36_2).f1.f1)) else (maskref4_LimitsFault.j2 k2 x36_2 l0_1 (l0_1.length : Int) x36_2 (decide (((rd_T51 l0_1 x36_2).f1.f1) > 16777216)) a0_0 l0_1 l0_2 l0_3 ((rd_T51 l0_1 x36_2).f0) ((rd_T51 l0_1 x36_2).f1.f0) ((rd_T51 l0_1 x36_2).f1.f1)))) = some r := by rw [if_pos rfl] at H; exact H
                 clear H
                 have H := H1
                 clear H1
                 have HC19 := Aside0.mk H
                 clear H
                 have p151 : 0 ≤ (x36_2 : Int) := of_decide_eq_true (by first | (with_reducible assumption) | assumption)
                 have q151 : x36_2 < (l0_1.length : Int) := of_decide_eq_true (by first | (with_reducible assumption) | assumption)
                 obtain ⟨ad151, e151, hx151_0, hx151_1, hx151_2⟩ := at_T51 HR0_1.out x36_2 p151 q151
                 cases e151
                 replace hx151_0 := (HB.out.cell (World.block_lt_of_cell? w _ hx151_0)).trans hx151_0
                 replace hx151_1 := (HB.out.cell (World.block_lt_of_cell? w _ hx151_1)).trans hx151_1
                 replace hx151_2 := (HB.out.cell (World.block_lt_of_cell? w _ hx151_2)).trans hx151_2
                 replace p151 := eq_true p151
                 replace q151 := eq_true q151
                 go_upto_region 10 with (first | ((with_reducible refine gate_dst (N := 4) rfl ?_); (try (refine gate_guard (by rfl) ?_; dsimp only)); refine box_event ?hg (N := 4) ?hd (cs := #[.string (⟨#[]⟩ : ByteArray), .int .i64 0, .int .i64 0]) (t := 51) ?hr ?_; (case hd => rfl); (case hg => rfl); (case hr => first | (go_simp; done) | (go_simp; rfl)); intro gb152 hg w20 hbox hb; have n0_ := Aside0.mk (blk_below (g := gb149) (o := .cells #[.int .i64 a0_0, .slice (some ad151) l0_1.length c0_1, .slice A0_2 l0_2.length c0_2, .slice A0_3 l0_3.length c0_3] 26 (0, 0)) (by (with_reducible repeat (first | refine blk_drewN ?_ _ | refine blk_drew ?_ | refine blk_alloc ?_ _)); exact BK149.out) hb); have n1_ := Aside0.mk (below_step (by repeat (first | (with_reducible first | exact HB.out | apply below_alloc | apply pw_below_drewN | apply below_drew1 | refine below_set ?_ GE149.out) | exact HB.out)) hb); have n2_ := Aside0.mk (hbox); have n3_ := Aside0.mk ((by rw [hg]; exact (below_size (by repeat (first | (with_reducible first | exact HB.out | apply below_alloc | apply pw_below_drewN | apply below_drew1 | refine below_set ?_ GE149.out) | exact HB.out))) : w.heap.size ≤ gb152)); have n4_ := Aside0.mk ((by rw [hg]; exact (below_size (by repeat (first | (with_reducible first | exact HB.out | apply below_alloc | apply pw_below_drewN | apply below_drew1 | refine below_set ?_ GE149.out) | exact HB.out))) : w.heap.size ≤ gb152)); have n5_ := Aside0.mk ((by rw [hg]; exact Nat.ne_of_lt (blk_lt (g := gb149) (o := .cells #[.int .i64 a0_0, .slice (some ad151) l0_1.length c0_1, .slice A0_2 l0_2.length c0_2, .slice A0_3 l0_3.length c0_3] 26 (0, 0)) (by (with_reducible repeat (first | refine blk_drewN ?_ _ | refine blk_drew ?_ | refine blk_alloc ?_ _)); exact BK149.out)) : gb149 ≠ gb152)); have n6_ := Aside0.mk ((by rw [hg]; exact Nat.ne_of_gt (blk_lt (g := gb149) (o := .cells #[.int .i64 a0_0, .slice (some ad151) l0_1.length c0_1, .slice A0_2 l0_2.length c0_2, .slice A0_3 l0_3.length c0_3] 26 (0, 0)) (by (with_reducible repeat (first | refine blk_drewN ?_ _ | refine blk_drew ?_ | refine blk_alloc ?_ _)); exact BK149.out)) : gb152 ≠ gb149)); clear BK149; clear HB; have BK149 := n0_; have HB := n1_; have BK152 := n2_; have GW152 := n3_; have GE152 := n4_; have NB149_152 := n5_; have NB152_149 := n6_; clear n0_ n1_ n2_ n3_ n4_ n5_ n6_; clear hb hbox hg; have hnb21 := NB152_149.out; have hnc21 := NB149_152.out; have hcz22_0 : w20.cell? ⟨gb152, 0, none⟩ = some (.string (⟨#[]⟩ : ByteArray)) := (blk_cell BK152.out 0).trans rfl; have hcz22_1 : w20.cell? ⟨gb152, 1, none⟩ = some (.int .i64 0) := (blk_cell BK152.out 1).trans rfl; have hcz22_2 : w20.cell? ⟨gb152, 2, none⟩ = some (.int .i64 0) := (blk_cell BK152.out 2).trans rfl; have hfz22_0 := blk_frozen BK152.out 0; have hfz22_1 := blk_frozen BK152.out 1; have hfz22_2 := blk_frozen BK152.out 2) | ((with_reducible refine gate_callee (f := 22) rfl ?_); refine goesL_ (some 43) rfl rfl Tryd.func22 (by kernel_rfl) rfl #[.string ((rd_T51 l0_1 x36_2).f0)] rfl (by (try simp only [List.map_toArray, List.map_cons, List.map_nil]); first | done | rfl | (simp only [List.length_drop, List.length_take]; rfl)) ?_; (with_reducible refine (maskref4_name.calls k2 ((rd_T51 l0_1 x36_2).f0) true _ A17.out).mono ?_); rintro e w' ⟨rfl, ⟨nd, rfl⟩⟩; refine ⟨_, rfl, ?_⟩))
                 (try simp only [Act.put, List.setIfInBounds_toArray, List.set_cons_zero, List.set_cons_succ])
                 go_cut [63] (fun v63 wc => ∃ (kq : Nat) (x63_18 : Bool), v63 = .bool x63_18 ∧ Aside0 (maskref4_LimitsFault.j2 kq x36_2 l0_1 (l0_1.length : Int) x36_2 x63_18 a0_0 l0_1 l0_2 l0_3 ((rd_T51 l0_1 x36_2).f0) ((rd_T51 l0_1 x36_2).f1.f0) ((rd_T51 l0_1 x36_2).f1.f1) = some r) ∧ Aside0 (kq ≤ k2) ∧ Aside0 (wc.heap[gb149]? = some (.cells #[.int .i64 a0_0, (.slice (some ad151) l0_1.length c0_1), (.slice A0_2 l0_2.length c0_2), (.slice A0_3 l0_3.length c0_3)] 26 (0, 0))) ∧ Aside0 (wc.heap[gb152]? = some (.cells #[.string ((rd_T51 l0_1 x36_2).f0), .int .i64 ((rd_T51 l0_1 x36_2).f1.f0), .int .i64 ((rd_T51 l0_1 x36_2).f1.f1)] 51 (0, 0))) ∧ Aside0 (Below w.heap.size w wc))
                 case first =>
                  have H := HC19.out
                  clear HC19
                  by_cases c23 : ((rd_T51 l0_1 x36_2).f1.f0) < 0
                  · rw [if_pos c23] at H
                    have c23b0 : decide (((rd_T51 l0_1 x36_2).f1.f0) < 0) = true := decide_eq_true c23
                    clear c23
                    (first | rw [c23b0] | (simp only [i64_w, i32_w]; rw [c23b0]) | skip)
                    have H' := Aside0.mk H
                    clear H
                    have hnb24 := NB152_149.out
                    have hnc24 := NB149_152.out
                    have hcz25_0 : w20.cell? ⟨gb152, 0, none⟩ = some (.string (⟨#[]⟩ : ByteArray)) := (blk_cell BK152.out 0).trans rfl
                    have hcz25_1 : w20.cell? ⟨gb152, 1, none⟩ = some (.int .i64 0) := (blk_cell BK152.out 1).trans rfl
                    have hcz25_2 : w20.cell? ⟨gb152, 2, none⟩ = some (.int .i64 0) := (blk_cell BK152.out 2).trans rfl
                    have hfz25_0 := blk_frozen BK152.out 0
                    have hfz25_1 := blk_frozen BK152.out 1
                    have hfz25_2 := blk_frozen BK152.out 2
                    go_wp2
                    go_meet
                    case rel => exact ⟨_, (true), (by first | rfl | (simp; done) | (simp [*]; done)), H', ⟨by have := HJ3.out; have := HK2.out; first | omega | exact Nat.le_refl _⟩, ⟨by (with_reducible repeat (first | refine blk_drewN ?_ _ | refine blk_drew ?_ | refine blk_alloc ?_ _)); refine blk_far ?_ NB149_152.out _; (with_reducible repeat (first | refine blk_drewN ?_ _ | refine blk_drew ?_ | refine blk_alloc ?_ _)); refine blk_far ?_ NB149_152.out _; (with_reducible repeat (first | refine blk_drewN ?_ _ | refine blk_drew ?_ | refine blk_alloc ?_ _)); refine blk_far ?_ NB149_152.out _; (with_reducible repeat (first | refine blk_drewN ?_ _ | refine blk_drew ?_ | refine blk_alloc ?_ _)); exact BK149.out⟩, ⟨by (with_reducible repeat (first | refine blk_drewN ?_ _ | refine blk_drew ?_ | refine blk_alloc ?_ _)); refine blk_put (cs := #[.string ((rd_T51 l0_1 x36_2).f0), .int .i64 ((rd_T51 l0_1 x36_2).f1.f0), .int .i64 0]) ?_ 2 _ rfl; (with_reducible repeat (first | refine blk_drewN ?_ _ | refine blk_drew ?_ | refine blk_alloc ?_ _)); refine blk_put (cs := #[.string ((rd_T51 l0_1 x36_2).f0), .int .i64 0, .int .i64 0]) ?_ 1 _ rfl; (with_reducible repeat (first | refine blk_drewN ?_ _ | refine blk_drew ?_ | refine blk_alloc ?_ _)); refine blk_put (cs := #[.string (⟨#[]⟩ : ByteArray), .int .i64 0, .int .i64 0]) ?_ 0 _ rfl; (with_reducible repeat (first | refine blk_drewN ?_ _ | refine blk_drew ?_ | refine blk_alloc ?_ _)); exact BK152.out⟩, ⟨by repeat (first | (with_reducible first | exact HB.out | apply below_alloc | apply pw_below_drewN | apply below_drew1 | refine below_set ?_ GE149.out | refine below_set ?_ GE152.out) | exact HB.out)⟩⟩
                  · rw [if_neg c23] at H
                    have c23b0 : decide (((rd_T51 l0_1 x36_2).f1.f0) < 0) = false := decide_eq_false c23
                    clear c23
                    (first | rw [c23b0] | (simp only [i64_w, i32_w]; rw [c23b0]) | skip)
                    by_cases c26 : ((rd_T51 l0_1 x36_2).f1.f0) > ((rd_T51 l0_1 x36_2).f1.f1)
                    · rw [if_pos c26] at H
                      have c26b0 : decide (((rd_T51 l0_1 x36_2).f1.f1) < ((rd_T51 l0_1 x36_2).f1.f0)) = true := decide_eq_true c26
                      clear c26
                      have H' := Aside0.mk H
                      clear H
                      have hnb27 := NB152_149.out
                      have hnc27 := NB149_152.out
                      have hcz28_0 : w20.cell? ⟨gb152, 0, none⟩ = some (.string (⟨#[]⟩ : ByteArray)) := (blk_cell BK152.out 0).trans rfl
                      have hcz28_1 : w20.cell? ⟨gb152, 1, none⟩ = some (.int .i64 0) := (blk_cell BK152.out 1).trans rfl
                      have hcz28_2 : w20.cell? ⟨gb152, 2, none⟩ = some (.int .i64 0) := (blk_cell BK152.out 2).trans rfl
                      have hfz28_0 := blk_frozen BK152.out 0
                      have hfz28_1 := blk_frozen BK152.out 1
                      have hfz28_2 := blk_frozen BK152.out 2
                      go_wp2
                      go_meet
                      case rel => exact ⟨_, (true), (by first | rfl | (simp; done) | (simp [*]; done)), H', ⟨by have := HJ3.out; have := HK2.out; first | omega | exact Nat.le_refl _⟩, ⟨by (with_reducible repeat (first | refine blk_drewN ?_ _ | refine blk_drew ?_ | refine blk_alloc ?_ _)); refine blk_far ?_ NB149_152.out _; (with_reducible repeat (first | refine blk_drewN ?_ _ | refine blk_drew ?_ | refine blk_alloc ?_ _)); refine blk_far ?_ NB149_152.out _; (with_reducible repeat (first | refine blk_drewN ?_ _ | refine blk_drew ?_ | refine blk_alloc ?_ _)); refine blk_far ?_ NB149_152.out _; (with_reducible repeat (first | refine blk_drewN ?_ _ | refine blk_drew ?_ | refine blk_alloc ?_ _)); exact BK149.out⟩, ⟨by (with_reducible repeat (first | refine blk_drewN ?_ _ | refine blk_drew ?_ | refine blk_alloc ?_ _)); refine blk_put (cs := #[.string ((rd_T51 l0_1 x36_2).f0), .int .i64 ((rd_T51 l0_1 x36_2).f1.f0), .int .i64 0]) ?_ 2 _ rfl; (with_reducible repeat (first | refine blk_drewN ?_ _ | refine blk_drew ?_ | refine blk_alloc ?_ _)); refine blk_put (cs := #[.string ((rd_T51 l0_1 x36_2).f0), .int .i64 0, .int .i64 0]) ?_ 1 _ rfl; (with_reducible repeat (first | refine blk_drewN ?_ _ | refine blk_drew ?_ | refine blk_alloc ?_ _)); refine blk_put (cs := #[.string (⟨#[]⟩ : ByteArray), .int .i64 0, .int .i64 0]) ?_ 0 _ rfl; (with_reducible repeat (first | refine blk_drewN ?_ _ | refine blk_drew ?_ | refine blk_alloc ?_ _)); exact BK152.out⟩, ⟨by repeat (first | (with_reducible first | exact HB.out | apply below_alloc | apply pw_below_drewN | apply below_drew1 | refine below_set ?_ GE149.out | refine below_set ?_ GE152.out) | exact HB.out)⟩⟩
                    · rw [if_neg c26] at H
                      have c26b0 : decide (((rd_T51 l0_1 x36_2).f1.f1) < ((rd_T51 l0_1 x36_2).f1.f0)) = false := decide_eq_false c26
                      clear c26
                      have H' := Aside0.mk H
                      clear H
                      have hnb29 := NB152_149.out
                      have hnc29 := NB149_152.out
                      have hcz30_0 : w20.cell? ⟨gb152, 0, none⟩ = some (.string (⟨#[]⟩ : ByteArray)) := (blk_cell BK152.out 0).trans rfl
                      have hcz30_1 : w20.cell? ⟨gb152, 1, none⟩ = some (.int .i64 0) := (blk_cell BK152.out 1).trans rfl
                      have hcz30_2 : w20.cell? ⟨gb152, 2, none⟩ = some (.int .i64 0) := (blk_cell BK152.out 2).trans rfl
                      have hfz30_0 := blk_frozen BK152.out 0
                      have hfz30_1 := blk_frozen BK152.out 1
                      have hfz30_2 := blk_frozen BK152.out 2
                      go_wp2
                      go_meet
                      case rel => exact ⟨_, (decide (((rd_T51 l0_1 x36_2).f1.f1) > 16777216)), (by first | rfl | (simp; done) | (simp [*]; done)), H', ⟨by have := HJ3.out; have := HK2.out; first | omega | exact Nat.le_refl _⟩, ⟨by (with_reducible repeat (first | refine blk_drewN ?_ _ | refine blk_drew ?_ | refine blk_alloc ?_ _)); refine blk_far ?_ NB149_152.out _; (with_reducible repeat (first | refine blk_drewN ?_ _ | refine blk_drew ?_ | refine blk_alloc ?_ _)); refine blk_far ?_ NB149_152.out _; (with_reducible repeat (first | refine blk_drewN ?_ _ | refine blk_drew ?_ | refine blk_alloc ?_ _)); refine blk_far ?_ NB149_152.out _; (with_reducible repeat (first | refine blk_drewN ?_ _ | refine blk_drew ?_ | refine blk_alloc ?_ _)); exact BK149.out⟩, ⟨by (with_reducible repeat (first | refine blk_drewN ?_ _ | refine blk_drew ?_ | refine blk_alloc ?_ _)); refine blk_put (cs := #[.string ((rd_T51 l0_1 x36_2).f0), .int .i64 ((rd_T51 l0_1 x36_2).f1.f0), .int .i64 0]) ?_ 2 _ rfl; (with_reducible repeat (first | refine blk_drewN ?_ _ | refine blk_drew ?_ | refine blk_alloc ?_ _)); refine blk_put (cs := #[.string ((rd_T51 l0_1 x36_2).f0), .int .i64 0, .int .i64 0]) ?_ 1 _ rfl; (with_reducible repeat (first | refine blk_drewN ?_ _ | refine blk_drew ?_ | refine blk_alloc ?_ _)); refine blk_put (cs := #[.string (⟨#[]⟩ : ByteArray), .int .i64 0, .int .i64 0]) ?_ 0 _ rfl; (with_reducible repeat (first | refine blk_drewN ?_ _ | refine blk_drew ?_ | refine blk_alloc ?_ _)); exact BK152.out⟩, ⟨by repeat (first | (with_reducible first | exact HB.out | apply below_alloc | apply pw_below_drewN | apply below_drew1 | refine below_set ?_ GE149.out | refine below_set ?_ GE152.out) | exact HB.out)⟩⟩
                 case rest =>
                  clear HC19
                  try clear c1
                  try clear p1
                  try clear q1
                  try clear hx1
                  try clear c2
                  try clear p2
                  try clear c3
                  try clear c7
                  try clear c7b0
                  try clear c7b1
                  try clear c9
                  try clear c9b0
                  try clear c9b1
                  try clear c12
                  try clear c14
                  try clear c14b0
                  try clear c15
                  try clear c15b0
                  try clear p15
                  try clear q15
                  try clear hx15
                  try clear c16
                  try clear c16b0
                  try clear c18
                  try clear c21
                  try clear c22
                  try clear c23
                  try clear c23b0
                  try clear c24
                  try clear c26
                  try clear c26b0
                  try clear c27
                  try clear c29
                  try clear hcz10_0
                  try clear hcz10_1
                  try clear hcz10_2
                  try clear hcz10_3
                  try clear hcz11_0
                  try clear hcz11_1
                  try clear hcz11_2
                  try clear hcz11_3
                  try clear hcz13_0
                  try clear hcz13_1
                  try clear hcz13_2
                  try clear hcz13_3
                  try clear hcz22_0
                  try clear hcz22_1
                  try clear hcz22_2
                  try clear hcz25_0
                  try clear hcz25_1
                  try clear hcz25_2
                  try clear hcz28_0
                  try clear hcz28_1
                  try clear hcz28_2
                  try clear hcz30_0
                  try clear hcz30_1
                  try clear hcz30_2
                  try clear hcz6_0
                  try clear hcz6_1
                  try clear hcz6_2
                  try clear hcz6_3
                  try clear hcz8_0
                  try clear hcz8_1
                  try clear hcz8_2
                  try clear hcz8_3
                  try clear hfz10_0
                  try clear hfz10_1
                  try clear hfz10_2
                  try clear hfz10_3
                  try clear hfz11_0
                  try clear hfz11_1
                  try clear hfz11_2
                  try clear hfz11_3
                  try clear hfz13_0
                  try clear hfz13_1
                  try clear hfz13_2
                  try clear hfz13_3
                  try clear hfz22_0
                  try clear hfz22_1
                  try clear hfz22_2
                  try clear hfz25_0
                  try clear hfz25_1
                  try clear hfz25_2
                  try clear hfz28_0
                  try clear hfz28_1
                  try clear hfz28_2
                  try clear hfz30_0
                  try clear hfz30_1
                  try clear hfz30_2
                  try clear hfz6_0
                  try clear hfz6_1
                  try clear hfz6_2
                  try clear hfz6_3
                  try clear hfz8_0
                  try clear hfz8_1
                  try clear hfz8_2
                  try clear hfz8_3
                  try clear hx151_0
                  try clear hx151_1
                  try clear hx151_2
                  try clear p151
                  try clear p2
                  try clear q151
                  obtain ⟨kq, x63_18, rfl, HA, HJ18, BK149, BK152, HB⟩ := hcut
                  cases kq with
                  | zero => exact absurd HA.out (by simp [maskref4_LimitsFault.j2])
                  | succ kj18 =>
                   have H := HA.out
                   clear HA
                   simp only [maskref4_LimitsFault.j2] at H
                   by_cases c31 : x63_18 = true
                   · subst c31
                     have H1 : (some 2) = some r := by rw [if_pos rfl] at H; exact H
                     clear H
                     have H := H1
                     clear H1
                     obtain rfl := Option.some.inj H
                     go_wp2
                     go_ret
                     exact ⟨by first | rfl | (simp [errW_none, errW_some] <;> rfl) | (simp [*, errW_none, errW_some] <;> rfl), by repeat (first | (with_reducible first | exact HB.out | apply below_alloc | apply pw_below_drewN | apply below_drew1 | refine below_set ?_ GE149.out | refine below_set ?_ GE152.out) | exact HB.out)⟩
                   · replace c31 := Bool.eq_false_iff.mpr c31
                     subst c31
                     have H1 : (if 0 ≤ x36_2 then (if x36_2 ≤ (l0_1.length : Int) then ((some (l0_1.take (x36_2 : Int).toNat : List (S51))).bind fun y154 => (maskref4_LimitsFault.l1 kj18 l0_1 (l0_1.length : Int) x36_2 y154 (y154.length : Int) 0 a0_0 l0_1 l0_2 l0_3 ((rd_T51 l0_1 x36_2).f0) ((rd_T51 l0_1 x36_2).f1.f0) ((rd_T51 l0_1 x36_2).f1.f1))) else (none)) else (none)) = some r := by rw [if_neg (show ¬ (false = true) by decide)] at H; exact H
                     clear H
                     have H := H1
                     clear H1
                     by_cases c32 : 0 ≤ x36_2
                     · rw [if_pos c32] at H
                       have c32b0 := eq_true c32
                       have c32b1 : decide (0 ≤ x36_2) = true := decide_eq_true c32
                       clear c32
                       by_cases c33 : x36_2 ≤ (l0_1.length : Int)
                       · rw [if_pos c33] at H
                         have c33b0 := eq_true c33
                         have c33b1 : decide (x36_2 ≤ (l0_1.length : Int)) = true := decide_eq_true c33
                         clear c33
                         obtain ⟨y154, hy154⟩ : ∃ y_ : List (S51), y_ = (l0_1.take (x36_2 : Int).toNat) := ⟨_, rfl⟩
                         replace H : (maskref4_LimitsFault.l1 kj18 l0_1 (l0_1.length : Int) x36_2 y154 (y154.length : Int) 0 a0_0 l0_1 l0_2 l0_3 ((rd_T51 l0_1 x36_2).f0) ((rd_T51 l0_1 x36_2).f1.f0) ((rd_T51 l0_1 x36_2).f1.f1)) = some r := by first | (rw [hy154]; with_reducible exact H) | (have H2_ := (Option.bind_some _ _).symm.trans H; rw [hy154]; with_reducible exact H2_) | (have H2_ := (Option.bind_some _ _).symm.trans H; with_reducible exact H2_) | with_reducible exact H | (rw [hy154]; exact H) | exact H
                         have Ny154 := Aside0.mk hy154
                         clear hy154
                         have H' := Aside0.mk H
                         clear H
                         have hnb34 := NB149_152.out
                         have hnc34 := NB152_149.out
                         have hcz35_0 : wc.cell? ⟨gb149, 0, none⟩ = some (.int .i64 a0_0) := (blk_cell BK149.out 0).trans rfl
                         have hcz35_1 : wc.cell? ⟨gb149, 1, none⟩ = some (.slice (some ad151) l0_1.length c0_1) := (blk_cell BK149.out 1).trans rfl
                         have hcz35_2 : wc.cell? ⟨gb149, 2, none⟩ = some (.slice A0_2 l0_2.length c0_2) := (blk_cell BK149.out 2).trans rfl
                         have hcz35_3 : wc.cell? ⟨gb149, 3, none⟩ = some (.slice A0_3 l0_3.length c0_3) := (blk_cell BK149.out 3).trans rfl
                         have hfz35_0 := blk_frozen BK149.out 0
                         have hfz35_1 := blk_frozen BK149.out 1
                         have hfz35_2 := blk_frozen BK149.out 2
                         have hfz35_3 := blk_frozen BK149.out 3
                         have q36 : (x36_2 : Int) ≤ ((l0_1.length : Int) : Int) := of_decide_eq_true (by first | (with_reducible assumption) | assumption)
                         obtain ⟨i036, hi036, _, hsz36, _⟩ := info_parts info51
                         have hroom36 : l0_1.length ≤ c0_1 := HC0_1.out
                         have hC36 : Kd.C k51 _ (some ad151) l0_1.length l0_1 := HR0_1.out
                         have hcut36 := cut_to (P := Tryd.prog) 22 51 .i64 Tryd.underlying22 hi036 (some ad151) l0_1.length c0_1 x36_2 (of_decide_eq_true (by first | (with_reducible assumption) | assumption)) q36 hroom36
                         have hr36 := Kd.C_take (m := (x36_2 : Int).toNat) hC36 (by omega)
                         have hy36 : y154.length = (x36_2 : Int).toNat := (by rw [Ny154.out, List.length_take]; omega)
                         rw [← Ny154.out] at hr36
                         rw [← hy36] at hcut36
                         have HR157 := Aside0.mk hr36
                         have HC157 := Aside0.mk (show y154.length ≤ c0_1 from by omega)
                         clear hr36 hC36 hroom36 hi036 hsz36
                         have KY36 := Aside0.mk hy36
                         clear hy36
                         replace q36 := eq_true q36
                         go_wp2
                         go_loopg [69] kj18 (fun kq v69 w' => ∃ (x69_4 : Int), v69 = .int .i64 x69_4 ∧ Aside0 (maskref4_LimitsFault.l1 kq l0_1 (l0_1.length : Int) x36_2 y154 (y154.length : Int) x69_4 a0_0 l0_1 l0_2 l0_3 ((rd_T51 l0_1 x36_2).f0) ((rd_T51 l0_1 x36_2).f1.f0) ((rd_T51 l0_1 x36_2).f1.f1) = some r) ∧ Aside0 (kq ≤ kj18) ∧ Aside0 (w'.heap[gb149]? = some (.cells #[.int .i64 a0_0, (.slice (some ad151) l0_1.length c0_1), (.slice A0_2 l0_2.length c0_2), (.slice A0_3 l0_3.length c0_3)] 26 (0, 0))) ∧ Aside0 (w'.heap[gb152]? = some (.cells #[.string ((rd_T51 l0_1 x36_2).f0), .int .i64 ((rd_T51 l0_1 x36_2).f1.f0), .int .i64 ((rd_T51 l0_1 x36_2).f1.f1)] 51 (0, 0))) ∧ Aside0 (Below w.heap.size w w'))
                         case atStart => exact ⟨(0), (by first | rfl | (simp; done) | (simp [*]; done)), H', ⟨Nat.le_refl _⟩, ⟨by (with_reducible repeat (first | refine blk_drewN ?_ _ | refine blk_drew ?_ | refine blk_alloc ?_ _)); exact BK149.out⟩, ⟨by (with_reducible repeat (first | refine blk_drewN ?_ _ | refine blk_drew ?_ | refine blk_alloc ?_ _)); exact BK152.out⟩, ⟨by repeat (first | (with_reducible first | exact HB.out | apply below_alloc | apply pw_below_drewN | apply below_drew1 | refine below_set ?_ GE149.out | refine below_set ?_ GE152.out) | exact HB.out)⟩⟩
                         case round =>
                          clear H'
                          try clear c1
                          try clear p1
                          try clear q1
                          try clear hx1
                          try clear c2
                          try clear p2
                          try clear c3
                          try clear q3
                          try clear c7
                          try clear c7b0
                          try clear c7b1
                          try clear c9
                          try clear c9b0
                          try clear c9b1
                          try clear c12
                          try clear c14
                          try clear c14b0
                          try clear c15
                          try clear c15b0
                          try clear p15
                          try clear q15
                          try clear hx15
                          try clear c16
                          try clear c16b0
                          try clear c18
                          try clear c21
                          try clear c22
                          try clear c23
                          try clear c23b0
                          try clear c24
                          try clear c26
                          try clear c26b0
                          try clear c27
                          try clear c29
                          try clear c31
                          try clear c32
                          try clear c32b0
                          try clear c32b1
                          try clear c33
                          try clear c33b0
                          try clear c33b1
                          try clear c34
                          try clear q36
                          try clear hcz10_0
                          try clear hcz10_1
                          try clear hcz10_2
                          try clear hcz10_3
                          try clear hcz11_0
                          try clear hcz11_1
                          try clear hcz11_2
                          try clear hcz11_3
                          try clear hcz13_0
                          try clear hcz13_1
                          try clear hcz13_2
                          try clear hcz13_3
                          try clear hcz22_0
                          try clear hcz22_1
                          try clear hcz22_2
                          try clear hcz25_0
                          try clear hcz25_1
                          try clear hcz25_2
                          try clear hcz28_0
                          try clear hcz28_1
                          try clear hcz28_2
                          try clear hcz30_0
                          try clear hcz30_1
                          try clear hcz30_2
                          try clear hcz35_0
                          try clear hcz35_1
                          try clear hcz35_2
                          try clear hcz35_3
                          try clear hcz6_0
                          try clear hcz6_1
                          try clear hcz6_2
                          try clear hcz6_3
                          try clear hcz8_0
                          try clear hcz8_1
                          try clear hcz8_2
                          try clear hcz8_3
                          try clear hfz10_0
                          try clear hfz10_1
                          try clear hfz10_2
                          try clear hfz10_3
                          try clear hfz11_0
                          try clear hfz11_1
                          try clear hfz11_2
                          try clear hfz11_3
                          try clear hfz13_0
                          try clear hfz13_1
                          try clear hfz13_2
                          try clear hfz13_3
                          try clear hfz22_0
                          try clear hfz22_1
                          try clear hfz22_2
                          try clear hfz25_0
                          try clear hfz25_1
                          try clear hfz25_2
                          try clear hfz28_0
                          try clear hfz28_1
                          try clear hfz28_2
                          try clear hfz30_0
                          try clear hfz30_1
                          try clear hfz30_2
                          try clear hfz35_0
                          try clear hfz35_1
                          try clear hfz35_2
                          try clear hfz35_3
                          try clear hfz6_0
                          try clear hfz6_1
                          try clear hfz6_2
                          try clear hfz6_3
                          try clear hfz8_0
                          try clear hfz8_1
                          try clear hfz8_2
                          try clear hfz8_3
                          try clear hx151_0
                          try clear hx151_1
                          try clear hx151_2
                          try clear p1
                          try clear p15
                          try clear p151
                          try clear p2
                          try clear q1
                          try clear q15
                          try clear q151
                          try clear q36
                          obtain ⟨x69_4, rfl, HA, HK4, BK149, BK152, HB⟩ := hrel
                          cases gk with
                          | zero => exact absurd HA.out (by simp [maskref4_LimitsFault.l1])
                          | succ k4 =>
                           have H := HA.out
                           clear HA
                           simp only [maskref4_LimitsFault.l1] at H
                           by_cases c37 : x69_4 < (y154.length : Int)
                           · rw [if_pos c37] at H
                             have c37b0 : decide (x69_4 < (y154.length : Int)) = true := decide_eq_true c37
                             clear c37
                             by_cases c38 : 0 ≤ x69_4
                             · rw [if_pos c38] at H
                               have c38b0 : decide (0 ≤ x69_4) = true := decide_eq_true c38
                               clear c38
                               by_cases c39 : x69_4 < (y154.length : Int)
                               · rw [if_pos c39] at H
                                 have c39b0 : decide (x69_4 < (y154.length : Int)) = true := decide_eq_true c39
                                 clear c39
                                 by_cases c40 : ((rd_T51 l0_1 x36_2).f0).toList = ((rd_T51 y154 x69_4).f0).toList
                                 · rw [if_pos c40] at H
                                   have c40b0 : (((rd_T51 l0_1 x36_2).f0).toList == ((rd_T51 y154 x69_4).f0).toList) = true := beq_iff_eq.mpr c40
                                   have c40b1 : (((rd_T51 l0_1 x36_2).f0).toList != ((rd_T51 y154 x69_4).f0).toList) = false := bne_eq_false_iff_eq.mpr c40
                                   clear c40
                                   obtain rfl := Option.some.inj H
                                   have p158 : 0 ≤ (x69_4 : Int) := of_decide_eq_true (by first | (with_reducible assumption) | assumption)
                                   have q158 : x69_4 < (y154.length : Int) := of_decide_eq_true (by first | (with_reducible assumption) | assumption)
                                   obtain ⟨ad158, e158, hx158_0, hx158_1, hx158_2⟩ := at_T51 HR157.out x69_4 p158 q158
                                   obtain rfl : ad151 = ad158 := (by injection e158)
                                   replace hx158_0 := (HB.out.cell (World.block_lt_of_cell? w _ hx158_0)).trans hx158_0
                                   replace hx158_1 := (HB.out.cell (World.block_lt_of_cell? w _ hx158_1)).trans hx158_1
                                   replace hx158_2 := (HB.out.cell (World.block_lt_of_cell? w _ hx158_2)).trans hx158_2
                                   replace p158 := eq_true p158
                                   replace q158 := eq_true q158
                                   go_wp2_with (first | ((with_reducible refine gate_dst (N := 6) rfl ?_); (try (refine gate_guard (by rfl) ?_; dsimp only)); refine box_event ?hg (N := 6) ?hd (cs := #[.string (⟨#[]⟩ : ByteArray), .int .i64 0, .int .i64 0]) (t := 51) ?hr ?_; (case hd => rfl); (case hg => rfl); (case hr => first | (go_simp; done) | (go_simp; rfl)); intro gb159 hg w41 hbox hb; have n0_ := Aside0.mk (blk_below (g := gb149) (o := .cells #[.int .i64 a0_0, .slice (some ad151) l0_1.length c0_1, .slice A0_2 l0_2.length c0_2, .slice A0_3 l0_3.length c0_3] 26 (0, 0)) (by (with_reducible repeat (first | refine blk_drewN ?_ _ | refine blk_drew ?_ | refine blk_alloc ?_ _)); exact BK149.out) hb); have n1_ := Aside0.mk (blk_below (g := gb152) (o := .cells #[.string ((rd_T51 l0_1 x36_2).f0), .int .i64 ((rd_T51 l0_1 x36_2).f1.f0), .int .i64 ((rd_T51 l0_1 x36_2).f1.f1)] 51 (0, 0)) (by (with_reducible repeat (first | refine blk_drewN ?_ _ | refine blk_drew ?_ | refine blk_alloc ?_ _)); exact BK152.out) hb); have n2_ := Aside0.mk (below_step (by repeat (first | (with_reducible first | exact HB.out | apply below_alloc | apply pw_below_drewN | apply below_drew1 | refine below_set ?_ GE149.out | refine below_set ?_ GE152.out) | exact HB.out)) hb); have n3_ := Aside0.mk (hbox); have n4_ := Aside0.mk ((by rw [hg]; exact (below_size (by repeat (first | (with_reducible first | exact HB.out | apply below_alloc | apply pw_below_drewN | apply below_drew1 | refine below_set ?_ GE149.out | refine below_set ?_ GE152.out) | exact HB.out))) : w.heap.size ≤ gb159)); have n5_ := Aside0.mk ((by rw [hg]; exact (below_size (by repeat (first | (with_reducible first | exact HB.out | apply below_alloc | apply pw_below_drewN | apply below_drew1 | refine below_set ?_ GE149.out | refine below_set ?_ GE152.out) | exact HB.out))) : w.heap.size ≤ gb159)); have n6_ := Aside0.mk ((by rw [hg]; exact Nat.ne_of_lt (blk_lt (g := gb149) (o := .cells #[.int .i64 a0_0, .slice (some ad151) l0_1.length c0_1, .slice A0_2 l0_2.length c0_2, .slice A0_3 l0_3.length c0_3] 26 (0, 0)) (by (with_reducible repeat (first | refine blk_drewN ?_ _ | refine blk_drew ?_ | refine blk_alloc ?_ _)); exact BK149.out)) : gb149 ≠ gb159)); have n7_ := Aside0.mk ((by rw [hg]; exact Nat.ne_of_gt (blk_lt (g := gb149) (o := .cells #[.int .i64 a0_0, .slice (some ad151) l0_1.length c0_1, .slice A0_2 l0_2.length c0_2, .slice A0_3 l0_3.length c0_3] 26 (0, 0)) (by (with_reducible repeat (first | refine blk_drewN ?_ _ | refine blk_drew ?_ | refine blk_alloc ?_ _)); exact BK149.out)) : gb159 ≠ gb149)); have n8_ := Aside0.mk ((by rw [hg]; exact Nat.ne_of_lt (blk_lt (g := gb152) (o := .cells #[.string ((rd_T51 l0_1 x36_2).f0), .int .i64 ((rd_T51 l0_1 x36_2).f1.f0), .int .i64 ((rd_T51 l0_1 x36_2).f1.f1)] 51 (0, 0)) (by (with_reducible repeat (first | refine blk_drewN ?_ _ | refine blk_drew ?_ | refine blk_alloc ?_ _)); exact BK152.out)) : gb152 ≠ gb159)); have n9_ := Aside0.mk ((by rw [hg]; exact Nat.ne_of_gt (blk_lt (g := gb152) (o := .cells #[.string ((rd_T51 l0_1 x36_2).f0), .int .i64 ((rd_T51 l0_1 x36_2).f1.f0), .int .i64 ((rd_T51 l0_1 x36_2).f1.f1)] 51 (0, 0)) (by (with_reducible repeat (first | refine blk_drewN ?_ _ | refine blk_drew ?_ | refine blk_alloc ?_ _)); exact BK152.out)) : gb159 ≠ gb152)); clear BK149; clear BK152; clear HB; have BK149 := n0_; have BK152 := n1_; have HB := n2_; have BK159 := n3_; have GW159 := n4_; have GE159 := n5_; have NB149_159 := n6_; have NB159_149 := n7_; have NB152_159 := n8_; have NB159_152 := n9_; clear n0_ n1_ n2_ n3_ n4_ n5_ n6_ n7_ n8_ n9_; clear hb hbox hg; have hnb42 := NB159_149.out; have hnc42 := NB149_159.out; have hnb43 := NB159_152.out; have hnc43 := NB152_159.out; have hcz44_0 : w41.cell? ⟨gb159, 0, none⟩ = some (.string (⟨#[]⟩ : ByteArray)) := (blk_cell BK159.out 0).trans rfl; have hcz44_1 : w41.cell? ⟨gb159, 1, none⟩ = some (.int .i64 0) := (blk_cell BK159.out 1).trans rfl; have hcz44_2 : w41.cell? ⟨gb159, 2, none⟩ = some (.int .i64 0) := (blk_cell BK159.out 2).trans rfl; have hfz44_0 := blk_frozen BK159.out 0; have hfz44_1 := blk_frozen BK159.out 1; have hfz44_2 := blk_frozen BK159.out 2; have hnb45 := NB152_149.out; have hnc45 := NB149_152.out; have hcz46_0 : w41.cell? ⟨gb152, 0, none⟩ = some (.string ((rd_T51 l0_1 x36_2).f0)) := (blk_cell BK152.out 0).trans rfl; have hcz46_1 : w41.cell? ⟨gb152, 1, none⟩ = some (.int .i64 ((rd_T51 l0_1 x36_2).f1.f0)) := (blk_cell BK152.out 1).trans rfl; have hcz46_2 : w41.cell? ⟨gb152, 2, none⟩ = some (.int .i64 ((rd_T51 l0_1 x36_2).f1.f1)) := (blk_cell BK152.out 2).trans rfl; have hfz46_0 := blk_frozen BK152.out 0; have hfz46_1 := blk_frozen BK152.out 1; have hfz46_2 := blk_frozen BK152.out 2))
                                   go_ret
                                   exact ⟨by first | rfl | (simp [errW_none, errW_some] <;> rfl) | (simp [*, errW_none, errW_some] <;> rfl), by repeat (first | (with_reducible first | exact HB.out | apply below_alloc | apply pw_below_drewN | apply below_drew1 | refine below_set ?_ GE149.out | refine below_set ?_ GE152.out | refine below_set ?_ GE159.out) | exact HB.out)⟩
                                 · rw [if_neg c40] at H
                                   have c40b0 : (((rd_T51 l0_1 x36_2).f0).toList == ((rd_T51 y154 x69_4).f0).toList) = false := beq_eq_false_iff_ne.mpr c40
                                   have c40b1 : (((rd_T51 l0_1 x36_2).f0).toList != ((rd_T51 y154 x69_4).f0).toList) = true := bne_iff_ne.mpr c40
                                   have H' := Aside0.mk H
                                   clear H
                                   have p158 : 0 ≤ (x69_4 : Int) := of_decide_eq_true (by first | (with_reducible assumption) | assumption)
                                   have q158 : x69_4 < (y154.length : Int) := of_decide_eq_true (by first | (with_reducible assumption) | assumption)
                                   obtain ⟨ad158, e158, hx158_0, hx158_1, hx158_2⟩ := at_T51 HR157.out x69_4 p158 q158
                                   obtain rfl : ad151 = ad158 := (by injection e158)
                                   replace hx158_0 := (HB.out.cell (World.block_lt_of_cell? w _ hx158_0)).trans hx158_0
                                   replace hx158_1 := (HB.out.cell (World.block_lt_of_cell? w _ hx158_1)).trans hx158_1
                                   replace hx158_2 := (HB.out.cell (World.block_lt_of_cell? w _ hx158_2)).trans hx158_2
                                   replace p158 := eq_true p158
                                   replace q158 := eq_true q158
                                   go_wp2_with (first | ((with_reducible refine gate_dst (N := 6) rfl ?_); (try (refine gate_guard (by rfl) ?_; dsimp only)); refine box_event ?hg (N := 6) ?hd (cs := #[.string (⟨#[]⟩ : ByteArray), .int .i64 0, .int .i64 0]) (t := 51) ?hr ?_; (case hd => rfl); (case hg => rfl); (case hr => first | (go_simp; done) | (go_simp; rfl)); intro gb159 hg w47 hbox hb; have n0_ := Aside0.mk (blk_below (g := gb149) (o := .cells #[.int .i64 a0_0, .slice (some ad151) l0_1.length c0_1, .slice A0_2 l0_2.length c0_2, .slice A0_3 l0_3.length c0_3] 26 (0, 0)) (by (with_reducible repeat (first | refine blk_drewN ?_ _ | refine blk_drew ?_ | refine blk_alloc ?_ _)); exact BK149.out) hb); have n1_ := Aside0.mk (blk_below (g := gb152) (o := .cells #[.string ((rd_T51 l0_1 x36_2).f0), .int .i64 ((rd_T51 l0_1 x36_2).f1.f0), .int .i64 ((rd_T51 l0_1 x36_2).f1.f1)] 51 (0, 0)) (by (with_reducible repeat (first | refine blk_drewN ?_ _ | refine blk_drew ?_ | refine blk_alloc ?_ _)); exact BK152.out) hb); have n2_ := Aside0.mk (below_step (by repeat (first | (with_reducible first | exact HB.out | apply below_alloc | apply pw_below_drewN | apply below_drew1 | refine below_set ?_ GE149.out | refine below_set ?_ GE152.out) | exact HB.out)) hb); have n3_ := Aside0.mk (hbox); have n4_ := Aside0.mk ((by rw [hg]; exact (below_size (by repeat (first | (with_reducible first | exact HB.out | apply below_alloc | apply pw_below_drewN | apply below_drew1 | refine below_set ?_ GE149.out | refine below_set ?_ GE152.out) | exact HB.out))) : w.heap.size ≤ gb159)); have n5_ := Aside0.mk ((by rw [hg]; exact (below_size (by repeat (first | (with_reducible first | exact HB.out | apply below_alloc | apply pw_below_drewN | apply below_drew1 | refine below_set ?_ GE149.out | refine below_set ?_ GE152.out) | exact HB.out))) : w.heap.size ≤ gb159)); have n6_ := Aside0.mk ((by rw [hg]; exact Nat.ne_of_lt (blk_lt (g := gb149) (o := .cells #[.int .i64 a0_0, .slice (some ad151) l0_1.length c0_1, .slice A0_2 l0_2.length c0_2, .slice A0_3 l0_3.length c0_3] 26 (0, 0)) (by (with_reducible repeat (first | refine blk_drewN ?_ _ | refine blk_drew ?_ | refine blk_alloc ?_ _)); exact BK149.out)) : gb149 ≠ gb159)); have n7_ := Aside0.mk ((by rw [hg]; exact Nat.ne_of_gt (blk_lt (g := gb149) (o := .cells #[.int .i64 a0_0, .slice (some ad151) l0_1.length c0_1, .slice A0_2 l0_2.length c0_2, .slice A0_3 l0_3.length c0_3] 26 (0, 0)) (by (with_reducible repeat (first | refine blk_drewN ?_ _ | refine blk_drew ?_ | refine blk_alloc ?_ _)); exact BK149.out)) : gb159 ≠ gb149)); have n8_ := Aside0.mk ((by rw [hg]; exact Nat.ne_of_lt (blk_lt (g := gb152) (o := .cells #[.string ((rd_T51 l0_1 x36_2).f0), .int .i64 ((rd_T51 l0_1 x36_2).f1.f0), .int .i64 ((rd_T51 l0_1 x36_2).f1.f1)] 51 (0, 0)) (by (with_reducible repeat (first | refine blk_drewN ?_ _ | refine blk_drew ?_ | refine blk_alloc ?_ _)); exact BK152.out)) : gb152 ≠ gb159)); have n9_ := Aside0.mk ((by rw [hg]; exact Nat.ne_of_gt (blk_lt (g := gb152) (o := .cells #[.string ((rd_T51 l0_1 x36_2).f0), .int .i64 ((rd_T51 l0_1 x36_2).f1.f0), .int .i64 ((rd_T51 l0_1 x36_2).f1.f1)] 51 (0, 0)) (by (with_reducible repeat (first | refine blk_drewN ?_ _ | refine blk_drew ?_ | refine blk_alloc ?_ _)); exact BK152.out)) : gb159 ≠ gb152)); clear BK149; clear BK152; clear HB; have BK149 := n0_; have BK152 := n1_; have HB := n2_; have BK159 := n3_; have GW159 := n4_; have GE159 := n5_; have NB149_159 := n6_; have NB159_149 := n7_; have NB152_159 := n8_; have NB159_152 := n9_; clear n0_ n1_ n2_ n3_ n4_ n5_ n6_ n7_ n8_ n9_; clear hb hbox hg; have hnb48 := NB159_149.out; have hnc48 := NB149_159.out; have hnb49 := NB159_152.out; have hnc49 := NB152_159.out; have hcz50_0 : w47.cell? ⟨gb159, 0, none⟩ = some (.string (⟨#[]⟩ : ByteArray)) := (blk_cell BK159.out 0).trans rfl; have hcz50_1 : w47.cell? ⟨gb159, 1, none⟩ = some (.int .i64 0) := (blk_cell BK159.out 1).trans rfl; have hcz50_2 : w47.cell? ⟨gb159, 2, none⟩ = some (.int .i64 0) := (blk_cell BK159.out 2).trans rfl; have hfz50_0 := blk_frozen BK159.out 0; have hfz50_1 := blk_frozen BK159.out 1; have hfz50_2 := blk_frozen BK159.out 2; have hnb51 := NB152_149.out; have hnc51 := NB149_152.out; have hcz52_0 : w47.cell? ⟨gb152, 0, none⟩ = some (.string ((rd_T51 l0_1 x36_2).f0)) := (blk_cell BK152.out 0).trans rfl; have hcz52_1 : w47.cell? ⟨gb152, 1, none⟩ = some (.int .i64 ((rd_T51 l0_1 x36_2).f1.f0)) := (blk_cell BK152.out 1).trans rfl; have hcz52_2 : w47.cell? ⟨gb152, 2, none⟩ = some (.int .i64 ((rd_T51 l0_1 x36_2).f1.f1)) := (blk_cell BK152.out 2).trans rfl; have hfz52_0 := blk_frozen BK152.out 0; have hfz52_1 := blk_frozen BK152.out 1; have hfz52_2 := blk_frozen BK152.out 2))
                                   go_roundg k4
                                   case measure => have := HJ3.out; have := HK2.out; have := HJ18.out; have := HK4.out; omega
                                   case rel => exact ⟨(wrap64 (x69_4 + 1)), (by first | rfl | (simp; done) | (simp [*]; done)), H', ⟨by have := HJ3.out; have := HK2.out; have := HJ18.out; have := HK4.out; omega⟩, ⟨by (with_reducible repeat (first | refine blk_drewN ?_ _ | refine blk_drew ?_ | refine blk_alloc ?_ _)); refine blk_far ?_ NB149_159.out _; (with_reducible repeat (first | refine blk_drewN ?_ _ | refine blk_drew ?_ | refine blk_alloc ?_ _)); refine blk_far ?_ NB149_159.out _; (with_reducible repeat (first | refine blk_drewN ?_ _ | refine blk_drew ?_ | refine blk_alloc ?_ _)); refine blk_far ?_ NB149_159.out _; (with_reducible repeat (first | refine blk_drewN ?_ _ | refine blk_drew ?_ | refine blk_alloc ?_ _)); exact BK149.out⟩, ⟨by (with_reducible repeat (first | refine blk_drewN ?_ _ | refine blk_drew ?_ | refine blk_alloc ?_ _)); refine blk_far ?_ NB152_159.out _; (with_reducible repeat (first | refine blk_drewN ?_ _ | refine blk_drew ?_ | refine blk_alloc ?_ _)); refine blk_far ?_ NB152_159.out _; (with_reducible repeat (first | refine blk_drewN ?_ _ | refine blk_drew ?_ | refine blk_alloc ?_ _)); refine blk_far ?_ NB152_159.out _; (with_reducible repeat (first | refine blk_drewN ?_ _ | refine blk_drew ?_ | refine blk_alloc ?_ _)); exact BK152.out⟩, ⟨by repeat (first | (with_reducible first | exact HB.out | apply below_alloc | apply pw_below_drewN | apply below_drew1 | refine below_set ?_ GE149.out | refine below_set ?_ GE152.out | refine below_set ?_ GE159.out) | exact HB.out)⟩⟩
                               · rw [if_neg c39] at H
                                 exact absurd H (by simp)
                             · rw [if_neg c38] at H
                               exact absurd H (by simp)
                           · rw [if_neg c37] at H
                             have c37b0 : decide (x69_4 < (y154.length : Int)) = false := decide_eq_false c37
                             clear c37
                             have H' := Aside0.mk H
                             clear H
                             go_wp2
                             go_roundg k4
                             case measure => have := HJ3.out; have := HK2.out; have := HJ18.out; have := HK4.out; omega
                             case rel => exact ⟨(wrap64 (x36_2 + 1)), (by first | rfl | (simp; done) | (simp [*]; done)), H', ⟨by have := HJ3.out; have := HK2.out; have := HJ18.out; have := HK4.out; omega⟩, ⟨by (with_reducible repeat (first | refine blk_drewN ?_ _ | refine blk_drew ?_ | refine blk_alloc ?_ _)); exact BK149.out⟩, ⟨by repeat (first | (with_reducible first | exact HB.out | apply below_alloc | apply pw_below_drewN | apply below_drew1 | refine below_set ?_ GE149.out | refine below_set ?_ GE152.out) | exact HB.out)⟩⟩
                       · rw [if_neg c33] at H
                         exact absurd H (by simp)
                     · rw [if_neg c32] at H
                       exact absurd H (by simp)
               · replace c18 := Bool.eq_false_iff.mpr c18
                 subst c18
                 have H1 : (some 9) = some r := by rw [if_neg (show ¬ (false = true) by decide)] at H; exact H
                 clear H
                 have H := H1
                 clear H1
                 obtain rfl := Option.some.inj H
                 have p151 : 0 ≤ (x36_2 : Int) := of_decide_eq_true (by first | (with_reducible assumption) | assumption)
                 have q151 : x36_2 < (l0_1.length : Int) := of_decide_eq_true (by first | (with_reducible assumption) | assumption)
                 obtain ⟨ad151, e151, hx151_0, hx151_1, hx151_2⟩ := at_T51 HR0_1.out x36_2 p151 q151
                 cases e151
                 replace hx151_0 := (HB.out.cell (World.block_lt_of_cell? w _ hx151_0)).trans hx151_0
                 replace hx151_1 := (HB.out.cell (World.block_lt_of_cell? w _ hx151_1)).trans hx151_1
                 replace hx151_2 := (HB.out.cell (World.block_lt_of_cell? w _ hx151_2)).trans hx151_2
                 replace p151 := eq_true p151
                 replace q151 := eq_true q151
                 go_wp2_with (first | ((with_reducible refine gate_dst (N := 4) rfl ?_); (try (refine gate_guard (by rfl) ?_; dsimp only)); refine box_event ?hg (N := 4) ?hd (cs := #[.string (⟨#[]⟩ : ByteArray), .int .i64 0, .int .i64 0]) (t := 51) ?hr ?_; (case hd => rfl); (case hg => rfl); (case hr => first | (go_simp; done) | (go_simp; rfl)); intro gb152 hg w53 hbox hb; have n0_ := Aside0.mk (blk_below (g := gb149) (o := .cells #[.int .i64 a0_0, .slice (some ad151) l0_1.length c0_1, .slice A0_2 l0_2.length c0_2, .slice A0_3 l0_3.length c0_3] 26 (0, 0)) (by (with_reducible repeat (first | refine blk_drewN ?_ _ | refine blk_drew ?_ | refine blk_alloc ?_ _)); exact BK149.out) hb); have n1_ := Aside0.mk (below_step (by repeat (first | (with_reducible first | exact HB.out | apply below_alloc | apply pw_below_drewN | apply below_drew1 | refine below_set ?_ GE149.out) | exact HB.out)) hb); have n2_ := Aside0.mk (hbox); have n3_ := Aside0.mk ((by rw [hg]; exact (below_size (by repeat (first | (with_reducible first | exact HB.out | apply below_alloc | apply pw_below_drewN | apply below_drew1 | refine below_set ?_ GE149.out) | exact HB.out))) : w.heap.size ≤ gb152)); have n4_ := Aside0.mk ((by rw [hg]; exact (below_size (by repeat (first | (with_reducible first | exact HB.out | apply below_alloc | apply pw_below_drewN | apply below_drew1 | refine below_set ?_ GE149.out) | exact HB.out))) : w.heap.size ≤ gb152)); have n5_ := Aside0.mk ((by rw [hg]; exact Nat.ne_of_lt (blk_lt (g := gb149) (o := .cells #[.int .i64 a0_0, .slice (some ad151) l0_1.length c0_1, .slice A0_2 l0_2.length c0_2, .slice A0_3 l0_3.length c0_3] 26 (0, 0)) (by (with_reducible repeat (first | refine blk_drewN ?_ _ | refine blk_drew ?_ | refine blk_alloc ?_ _)); exact BK149.out)) : gb149 ≠ gb152)); have n6_ := Aside0.mk ((by rw [hg]; exact Nat.ne_of_gt (blk_lt (g := gb149) (o := .cells #[.int .i64 a0_0, .slice (some ad151) l0_1.length c0_1, .slice A0_2 l0_2.length c0_2, .slice A0_3 l0_3.length c0_3] 26 (0, 0)) (by (with_reducible repeat (first | refine blk_drewN ?_ _ | refine blk_drew ?_ | refine blk_alloc ?_ _)); exact BK149.out)) : gb152 ≠ gb149)); clear BK149; clear HB; have BK149 := n0_; have HB := n1_; have BK152 := n2_; have GW152 := n3_; have GE152 := n4_; have NB149_152 := n5_; have NB152_149 := n6_; clear n0_ n1_ n2_ n3_ n4_ n5_ n6_; clear hb hbox hg; have hnb54 := NB152_149.out; have hnc54 := NB149_152.out; have hcz55_0 : w53.cell? ⟨gb152, 0, none⟩ = some (.string (⟨#[]⟩ : ByteArray)) := (blk_cell BK152.out 0).trans rfl; have hcz55_1 : w53.cell? ⟨gb152, 1, none⟩ = some (.int .i64 0) := (blk_cell BK152.out 1).trans rfl; have hcz55_2 : w53.cell? ⟨gb152, 2, none⟩ = some (.int .i64 0) := (blk_cell BK152.out 2).trans rfl; have hfz55_0 := blk_frozen BK152.out 0; have hfz55_1 := blk_frozen BK152.out 1; have hfz55_2 := blk_frozen BK152.out 2) | ((with_reducible refine gate_callee (f := 22) rfl ?_); refine goesL_ (some 43) rfl rfl Tryd.func22 (by kernel_rfl) rfl #[.string ((rd_T51 l0_1 x36_2).f0)] rfl (by (try simp only [List.map_toArray, List.map_cons, List.map_nil]); first | done | rfl | (simp only [List.length_drop, List.length_take]; rfl)) ?_; (with_reducible refine (maskref4_name.calls k2 ((rd_T51 l0_1 x36_2).f0) false _ A17.out).mono ?_); rintro e w' ⟨rfl, ⟨nd, rfl⟩⟩; refine ⟨_, rfl, ?_⟩))
                 go_ret
                 exact ⟨by first | rfl | (simp [errW_none, errW_some] <;> rfl) | (simp [*, errW_none, errW_some] <;> rfl), by repeat (first | (with_reducible first | exact HB.out | apply below_alloc | apply pw_below_drewN | apply below_drew1 | refine below_set ?_ GE149.out | refine below_set ?_ GE152.out) | exact HB.out)⟩
             · rw [if_neg c16] at H
               exact absurd H (by simp)
           · rw [if_neg c15] at H
             exact absurd H (by simp)
         · rw [if_neg c14] at H
           have c14b0 : decide (x36_2 < (l0_1.length : Int)) = false := decide_eq_false c14
           clear c14
           have H' := Aside0.mk H
           clear H
           have hcz56_0 : wr.cell? ⟨gb149, 0, none⟩ = some (.int .i64 a0_0) := (blk_cell BK149.out 0).trans rfl
           have hcz56_1 : wr.cell? ⟨gb149, 1, none⟩ = some (.slice A0_1 l0_1.length c0_1) := (blk_cell BK149.out 1).trans rfl
           have hcz56_2 : wr.cell? ⟨gb149, 2, none⟩ = some (.slice A0_2 l0_2.length c0_2) := (blk_cell BK149.out 2).trans rfl
           have hcz56_3 : wr.cell? ⟨gb149, 3, none⟩ = some (.slice A0_3 l0_3.length c0_3) := (blk_cell BK149.out 3).trans rfl
           have hfz56_0 := blk_frozen BK149.out 0
           have hfz56_1 := blk_frozen BK149.out 1
           have hfz56_2 := blk_frozen BK149.out 2
           have hfz56_3 := blk_frozen BK149.out 3
           go_wp2
           go_loopg [83] k2 (fun kq v83 w' => ∃ (x83_3 : Int), v83 = .int .i64 x83_3 ∧ Aside0 (maskref4_LimitsFault.l2 kq l0_2 (l0_2.length : Int) x83_3 a0_0 l0_1 l0_2 l0_3 = some r) ∧ Aside0 (kq ≤ k2) ∧ Aside0 (w'.heap[gb149]? = some (.cells #[.int .i64 a0_0, (.slice A0_1 l0_1.length c0_1), (.slice A0_2 l0_2.length c0_2), (.slice A0_3 l0_3.length c0_3)] 26 (0, 0))) ∧ Aside0 (Below w.heap.size w w'))
           case atStart => exact ⟨(0), (by first | rfl | (simp; done) | (simp [*]; done)), H', ⟨Nat.le_refl _⟩, ⟨by (with_reducible repeat (first | refine blk_drewN ?_ _ | refine blk_drew ?_ | refine blk_alloc ?_ _)); exact BK149.out⟩, ⟨by repeat (first | (with_reducible first | exact HB.out | apply below_alloc | apply pw_below_drewN | apply below_drew1 | refine below_set ?_ GE149.out) | exact HB.out)⟩⟩
           case round =>
            clear H'
            try clear c1
            try clear p1
            try clear q1
            try clear hx1
            try clear c2
            try clear p2
            try clear c3
            try clear q3
            try clear c4
            try clear c5
            try clear p6
            try clear c7
            try clear c7b0
            try clear c7b1
            try clear c9
            try clear c9b0
            try clear c9b1
            try clear c12
            try clear c14
            try clear c14b0
            try clear c15
            try clear c15b0
            try clear p15
            try clear q15
            try clear hx15
            try clear c16
            try clear c16b0
            try clear c18
            try clear c21
            try clear c22
            try clear c23
            try clear c23b0
            try clear c24
            try clear c26
            try clear c26b0
            try clear c27
            try clear c29
            try clear c31
            try clear c32
            try clear c32b0
            try clear c32b1
            try clear c33
            try clear c33b0
            try clear c33b1
            try clear c34
            try clear q36
            try clear c37
            try clear c37b0
            try clear c38
            try clear c38b0
            try clear c39
            try clear c39b0
            try clear c40
            try clear c40b0
            try clear c40b1
            try clear c42
            try clear c43
            try clear c45
            try clear c48
            try clear c49
            try clear c51
            try clear c54
            try clear hcz10_0
            try clear hcz10_1
            try clear hcz10_2
            try clear hcz10_3
            try clear hcz11_0
            try clear hcz11_1
            try clear hcz11_2
            try clear hcz11_3
            try clear hcz13_0
            try clear hcz13_1
            try clear hcz13_2
            try clear hcz13_3
            try clear hcz22_0
            try clear hcz22_1
            try clear hcz22_2
            try clear hcz25_0
            try clear hcz25_1
            try clear hcz25_2
            try clear hcz28_0
            try clear hcz28_1
            try clear hcz28_2
            try clear hcz30_0
            try clear hcz30_1
            try clear hcz30_2
            try clear hcz35_0
            try clear hcz35_1
            try clear hcz35_2
            try clear hcz35_3
            try clear hcz44_0
            try clear hcz44_1
            try clear hcz44_2
            try clear hcz46_0
            try clear hcz46_1
            try clear hcz46_2
            try clear hcz50_0
            try clear hcz50_1
            try clear hcz50_2
            try clear hcz52_0
            try clear hcz52_1
            try clear hcz52_2
            try clear hcz55_0
            try clear hcz55_1
            try clear hcz55_2
            try clear hcz56_0
            try clear hcz56_1
            try clear hcz56_2
            try clear hcz56_3
            try clear hcz6_0
            try clear hcz6_1
            try clear hcz6_2
            try clear hcz6_3
            try clear hcz8_0
            try clear hcz8_1
            try clear hcz8_2
            try clear hcz8_3
            try clear hfz10_0
            try clear hfz10_1
            try clear hfz10_2
            try clear hfz10_3
            try clear hfz11_0
            try clear hfz11_1
            try clear hfz11_2
            try clear hfz11_3
            try clear hfz13_0
            try clear hfz13_1
            try clear hfz13_2
            try clear hfz13_3
            try clear hfz22_0
            try clear hfz22_1
            try clear hfz22_2
            try clear hfz25_0
            try clear hfz25_1
            try clear hfz25_2
            try clear hfz28_0
            try clear hfz28_1
            try clear hfz28_2
            try clear hfz30_0
            try clear hfz30_1
            try clear hfz30_2
            try clear hfz35_0
            try clear hfz35_1
            try clear hfz35_2
            try clear hfz35_3
            try clear hfz44_0
            try clear hfz44_1
            try clear hfz44_2
            try clear hfz46_0
            try clear hfz46_1
            try clear hfz46_2
            try clear hfz50_0
            try clear hfz50_1
            try clear hfz50_2
            try clear hfz52_0
            try clear hfz52_1
            try clear hfz52_2
            try clear hfz55_0
            try clear hfz55_1
            try clear hfz55_2
            try clear hfz56_0
            try clear hfz56_1
            try clear hfz56_2
            try clear hfz56_3
            try clear hfz6_0
            try clear hfz6_1
            try clear hfz6_2
            try clear hfz6_3
            try clear hfz8_0
            try clear hfz8_1
            try clear hfz8_2
            try clear hfz8_3
            try clear hx151_0
            try clear hx151_1
            try clear hx151_2
            try clear hx158_0
            try clear hx158_1
            try clear hx158_2
            try clear p1
            try clear p15
            try clear p151
            try clear p158
            try clear p2
            try clear q1
            try clear q15
            try clear q151
            try clear q158
            try clear q3
            try clear q36
            obtain ⟨x83_3, rfl, HA, HK3, BK149, HB⟩ := hrel
            cases gk with
            | zero => exact absurd HA.out (by simp [maskref4_LimitsFault.l2])
            | succ k3 =>
             have H := HA.out
             clear HA
             simp only [maskref4_LimitsFault.l2] at H
             by_cases c57 : x83_3 < (l0_2.length : Int)
             · rw [if_pos c57] at H
               have c57b0 : decide (x83_3 < (l0_2.length : Int)) = true := decide_eq_true c57
               clear c57
               by_cases c58 : 0 ≤ x83_3
               · rw [if_pos c58] at H
                 have c58b0 : decide (0 ≤ x83_3) = true := decide_eq_true c58
                 clear c58
                 by_cases c59 : x83_3 < (l0_2.length : Int)
                 · rw [if_pos c59] at H
                   have c59b0 : decide (x83_3 < (l0_2.length : Int)) = true := decide_eq_true c59
                   clear c59
                   replace H := Option.bind_eq_some_iff.mp H
                   obtain ⟨t162, A600, H⟩ := H
                   replace H : (if t162 = true then ((maskref4_In.f ((rd_T53 l0_2 x83_3).f1) 1 16777216).bind fun t163 => (if t163 = true then (if x83_3 ≤ (l0_2.length : Int) then ((some (l0_2.take (x83_3 : Int).toNat : List (S53))).bind fun y164 => (maskref4_LimitsFault.l3 k3 l0_2 (l0_2.length : Int) x83_3 y164 (y164.length : Int) 0 a0_0 l0_1 l0_2 l0_3 ((rd_T53 l0_2 x83_3).f0) ((rd_T53 l0_2 x83_3).f1))) else (none)) else (some 2))) else (some 9)) = some r := H
                   have A60 := Aside0.mk A600
                   clear A600
                   by_cases c61 : t162 = true
                   · subst c61
                     have H1 : ((maskref4_In.f ((rd_T53 l0_2 x83_3).f1) 1 16777216).bind fun t163 => (if t163 = true then (if x83_3 ≤ (l0_2.length : Int) then ((some (l0_2.take (x83_3 : Int).toNat : List (S53))).bind fun y164 => (maskref4_LimitsFault.l3 k3 l0_2 (l0_2.length : Int) x83_3 y164 (y164.length : Int) 0 a0_0 l0_1 l0_2 l0_3 ((rd_T53 l0_2 x83_3).f0) ((rd_T53 l0_2 x83_3).f1))) else (none)) else (some 2))) = some r := by rw [if_pos rfl] at H; exact H
                     clear H
                     have H := H1
                     clear H1
                     replace H := Option.bind_eq_some_iff.mp H
                     obtain ⟨t163, A620, H⟩ := H
                     replace H : (if t163 = true then (if x83_3 ≤ (l0_2.length : Int) then ((some (l0_2.take (x83_3 : Int).toNat : List (S53))).bind fun y164 => (maskref4_LimitsFault.l3 k3 l0_2 (l0_2.length : Int) x83_3 y164 (y164.length : Int) 0 a0_0 l0_1 l0_2 l0_3 ((rd_T53 l0_2 x83_3).f0) ((rd_T53 l0_2 x83_3).f1))) else (none)) else (some 2)) = some r := H
                     have A62 := Aside0.mk A620
                     clear A620
                     by_cases c63 : t163 = true
                     · subst c63
                       have H1 : (if x83_3 ≤ (l0_2.length : Int) then ((some (l0_2.take (x83_3 : Int).toNat : List (S53))).bind fun y164 => (maskref4_LimitsFault.l3 k3 l0_2 (l0_2.length : Int) x83_3 y164 (y164.length : Int) 0 a0_0 l0_1 l0_2 l0_3 ((rd_T53 l0_2 x83_3).f0) ((rd_T53 l0_2 x83_3).f1))) else (none)) = some r := by rw [if_pos rfl] at H; exact H
                       clear H
                       have H := H1
                       clear H1
                       have c64b0 := eq_true (of_decide_eq_true (by first | (with_reducible assumption) | assumption) : 0 ≤ x83_3)
                       by_cases c65 : x83_3 ≤ (l0_2.length : Int)
                       · rw [if_pos c65] at H
                         have c65b0 := eq_true c65
                         have c65b1 : decide (x83_3 ≤ (l0_2.length : Int)) = true := decide_eq_true c65
                         clear c65
                         obtain ⟨y164, hy164⟩ : ∃ y_ : List (S53), y_ = (l0_2.take (x83_3 : Int).toNat) := ⟨_, rfl⟩
                         replace H : (maskref4_LimitsFault.l3 k3 l0_2 (l0_2.length : Int) x83_3 y164 (y164.length : Int) 0 a0_0 l0_1 l0_2 l0_3 ((rd_T53 l0_2 x83_3).f0) ((rd_T53 l0_2 x83_3).f1)) = some r := by first | (rw [hy164]; with_reducible exact H) | (have H2_ := (Option.bind_some _ _).symm.trans H; rw [hy164]; with_reducible exact H2_) | (have H2_ := (Option.bind_some _ _).symm.trans H; with_reducible exact H2_) | with_reducible exact H | (rw [hy164]; exact H) | exact H
                         have Ny164 := Aside0.mk hy164
                         clear hy164
                         have H' := Aside0.mk H
                         clear H
                         have p160 : 0 ≤ (x83_3 : Int) := of_decide_eq_true (by first | (with_reducible assumption) | assumption)
                         have q160 : x83_3 < (l0_2.length : Int) := of_decide_eq_true (by first | (with_reducible assumption) | assumption)
                         obtain ⟨ad160, e160, hx160_0, hx160_1⟩ := at_T53 HR0_2.out x83_3 p160 q160
                         cases e160
                         replace hx160_0 := (HB.out.cell (World.block_lt_of_cell? w _ hx160_0)).trans hx160_0
                         replace hx160_1 := (HB.out.cell (World.block_lt_of_cell? w _ hx160_1)).trans hx160_1
                         replace p160 := eq_true p160
                         replace q160 := eq_true q160
                         go_wp2_with (first | ((with_reducible refine gate_dst (N := 8) rfl ?_); (try (refine gate_guard (by rfl) ?_; dsimp only)); refine box_event ?hg (N := 8) ?hd (cs := #[.string (⟨#[]⟩ : ByteArray), .int .i64 0]) (t := 53) ?hr ?_; (case hd => rfl); (case hg => rfl); (case hr => first | (go_simp; done) | (go_simp; rfl)); intro gb161 hg w66 hbox hb; have n0_ := Aside0.mk (blk_below (g := gb149) (o := .cells #[.int .i64 a0_0, .slice A0_1 l0_1.length c0_1, .slice (some ad160) l0_2.length c0_2, .slice A0_3 l0_3.length c0_3] 26 (0, 0)) (by (with_reducible repeat (first | refine blk_drewN ?_ _ | refine blk_drew ?_ | refine blk_alloc ?_ _)); exact BK149.out) hb); have n1_ := Aside0.mk (below_step (by repeat (first | (with_reducible first | exact HB.out | apply below_alloc | apply pw_below_drewN | apply below_drew1 | refine below_set ?_ GE149.out) | exact HB.out)) hb); have n2_ := Aside0.mk (hbox); have n3_ := Aside0.mk ((by rw [hg]; exact (below_size (by repeat (first | (with_reducible first | exact HB.out | apply below_alloc | apply pw_below_drewN | apply below_drew1 | refine below_set ?_ GE149.out) | exact HB.out))) : w.heap.size ≤ gb161)); have n4_ := Aside0.mk ((by rw [hg]; exact (below_size (by repeat (first | (with_reducible first | exact HB.out | apply below_alloc | apply pw_below_drewN | apply below_drew1 | refine below_set ?_ GE149.out) | exact HB.out))) : w.heap.size ≤ gb161)); have n5_ := Aside0.mk ((by rw [hg]; exact Nat.ne_of_lt (blk_lt (g := gb149) (o := .cells #[.int .i64 a0_0, .slice A0_1 l0_1.length c0_1, .slice (some ad160) l0_2.length c0_2, .slice A0_3 l0_3.length c0_3] 26 (0, 0)) (by (with_reducible repeat (first | refine blk_drewN ?_ _ | refine blk_drew ?_ | refine blk_alloc ?_ _)); exact BK149.out)) : gb149 ≠ gb161)); have n6_ := Aside0.mk ((by rw [hg]; exact Nat.ne_of_gt (blk_lt (g := gb149) (o := .cells #[.int .i64 a0_0, .slice A0_1 l0_1.length c0_1, .slice (some ad160) l0_2.length c0_2, .slice A0_3 l0_3.length c0_3] 26 (0, 0)) (by (with_reducible repeat (first | refine blk_drewN ?_ _ | refine blk_drew ?_ | refine blk_alloc ?_ _)); exact BK149.out)) : gb161 ≠ gb149)); clear BK149; clear HB; have BK149 := n0_; have HB := n1_; have BK161 := n2_; have GW161 := n3_; have GE161 := n4_; have NB149_161 := n5_; have NB161_149 := n6_; clear n0_ n1_ n2_ n3_ n4_ n5_ n6_; clear hb hbox hg; have hnb67 := NB161_149.out; have hnc67 := NB149_161.out; have hcz68_0 : w66.cell? ⟨gb161, 0, none⟩ = some (.string (⟨#[]⟩ : ByteArray)) := (blk_cell BK161.out 0).trans rfl; have hcz68_1 : w66.cell? ⟨gb161, 1, none⟩ = some (.int .i64 0) := (blk_cell BK161.out 1).trans rfl; have hfz68_0 := blk_frozen BK161.out 0; have hfz68_1 := blk_frozen BK161.out 1) | ((with_reducible refine gate_store (t := 53) (p := 8) rfl ?_); refine store_event (t := 53) (p := 8) (v := ?vo_w69) (w1 := ((w66.setCell ⟨gb161, 0, none⟩ (.string ((rd_T53 l0_2 x83_3).f0))).setCell ⟨gb161, 1, none⟩ (.int .i64 ((rd_T53 l0_2 x83_3).f1)))) ?hg ?ho ?hn ?hr ?_; (case ho => rfl); (case hg => rfl); (case hn => rfl); (case hr => first | (go_simp; done) | (go_simp; rfl)); intro w69 hw; have n0_ : Aside0 (w69.heap[gb149]? = some (.cells #[.int .i64 a0_0, .slice A0_1 l0_1.length c0_1, .slice (some ad160) l0_2.length c0_2, .slice A0_3 l0_3.length c0_3] 26 (0, 0))) := ⟨(by rw [hw]; exact (by (with_reducible repeat (first | refine blk_drewN ?_ _ | refine blk_drew ?_ | refine blk_alloc ?_ _)); refine blk_far ?_ NB149_161.out _; (with_reducible repeat (first | refine blk_drewN ?_ _ | refine blk_drew ?_ | refine blk_alloc ?_ _)); refine blk_far ?_ NB149_161.out _; (with_reducible repeat (first | refine blk_drewN ?_ _ | refine blk_drew ?_ | refine blk_alloc ?_ _)); exact BK149.out))⟩; have n1_ : Aside0 (w69.heap[gb161]? = some (.cells #[.string ((rd_T53 l0_2 x83_3).f0), .int .i64 ((rd_T53 l0_2 x83_3).f1)] 53 (0, 0))) := ⟨(by rw [hw]; exact (by (with_reducible repeat (first | refine blk_drewN ?_ _ | refine blk_drew ?_ | refine blk_alloc ?_ _)); refine blk_put (cs := #[.string ((rd_T53 l0_2 x83_3).f0), .int .i64 0]) ?_ 1 _ rfl; (with_reducible repeat (first | refine blk_drewN ?_ _ | refine blk_drew ?_ | refine blk_alloc ?_ _)); refine blk_put (cs := #[.string (⟨#[]⟩ : ByteArray), .int .i64 0]) ?_ 0 _ rfl; (with_reducible repeat (first | refine blk_drewN ?_ _ | refine blk_drew ?_ | refine blk_alloc ?_ _)); exact BK161.out))⟩; have n2_ : Aside0 (Below w.heap.size w w69) := ⟨(by rw [hw]; exact (by repeat (first | (with_reducible first | exact HB.out | apply below_alloc | apply pw_below_drewN | apply below_drew1 | refine below_set ?_ GE149.out | refine below_set ?_ GE161.out) | exact HB.out)))⟩; clear hw; clear BK149; clear BK161; clear HB; have BK149 := n0_; have BK161 := n1_; have HB := n2_; clear n0_ n1_ n2_; have hcz70_0 : w69.cell? ⟨gb161, 0, none⟩ = some (.string ((rd_T53 l0_2 x83_3).f0)) := (blk_cell BK161.out 0).trans rfl; have hcz70_1 : w69.cell? ⟨gb161, 1, none⟩ = some (.int .i64 ((rd_T53 l0_2 x83_3).f1)) := (blk_cell BK161.out 1).trans rfl; have hfz70_0 := blk_frozen BK161.out 0; have hfz70_1 := blk_frozen BK161.out 1) | ((with_reducible refine gate_callee (f := 22) rfl ?_); refine goesL_ (some 90) rfl rfl Tryd.func22 (by kernel_rfl) rfl #[.string ((rd_T53 l0_2 x83_3).f0)] rfl (by (try simp only [List.map_toArray, List.map_cons, List.map_nil]); first | done | rfl | (simp only [List.length_drop, List.length_take]; rfl)) ?_; (with_reducible refine (maskref4_name.calls k3 ((rd_T53 l0_2 x83_3).f0) true _ A60.out).mono ?_); rintro e w' ⟨rfl, ⟨nd, rfl⟩⟩; refine ⟨_, rfl, ?_⟩) | ((with_reducible refine gate_callee (f := 21) rfl ?_); refine goesL_ (some 94) rfl rfl Tryd.func21 (by kernel_rfl) rfl #[.int .i64 ((rd_T53 l0_2 x83_3).f1), .int .i64 1, .int .i64 16777216] rfl (by (try simp only [List.map_toArray, List.map_cons, List.map_nil]); first | done | rfl | (simp only [List.length_drop, List.length_take]; rfl)) ?_; (with_reducible refine (maskref4_In.calls ((rd_T53 l0_2 x83_3).f1) 1 16777216 true _ A62.out).mono ?_); rintro e w' ⟨rfl, ⟨nd, rfl⟩⟩; refine ⟨_, rfl, ?_⟩; have hcz71_0 : w69.cell? ⟨gb149, 0, none⟩ = some (.int .i64 a0_0) := (blk_cell BK149.out 0).trans rfl; have hcz71_1 : w69.cell? ⟨gb149, 1, none⟩ = some (.slice A0_1 l0_1.length c0_1) := (blk_cell BK149.out 1).trans rfl; have hcz71_2 : w69.cell? ⟨gb149, 2, none⟩ = some (.slice (some ad160) l0_2.length c0_2) := (blk_cell BK149.out 2).trans rfl; have hcz71_3 : w69.cell? ⟨gb149, 3, none⟩ = some (.slice A0_3 l0_3.length c0_3) := (blk_cell BK149.out 3).trans rfl; have hfz71_0 := blk_frozen BK149.out 0; have hfz71_1 := blk_frozen BK149.out 1; have hfz71_2 := blk_frozen BK149.out 2; have hfz71_3 := blk_frozen BK149.out 3; have q72 : (x83_3 : Int) ≤ ((l0_2.length : Int) : Int) := of_decide_eq_true (by first | (with_reducible assumption) | assumption); obtain ⟨i072, hi072, _, hsz72, _⟩ := info_parts info53; have hroom72 : l0_2.length ≤ c0_2 := HC0_2.out; have hC72 : Kd.C k53 _ (some ad160) l0_2.length l0_2 := HR0_2.out; have hcut72 := cut_to (P := Tryd.prog) 23 53 .i64 Tryd.underlying23 hi072 (some ad160) l0_2.length c0_2 x83_3 (of_decide_eq_true (by first | (with_reducible assumption) | assumption)) q72 hroom72; have hr72 := Kd.C_take (m := (x83_3 : Int).toNat) hC72 (by omega); have hy72 : y164.length = (x83_3 : Int).toNat := (by rw [Ny164.out, List.length_take]; omega); rw [← Ny164.out] at hr72; rw [← hy72] at hcut72; have HR167 := Aside0.mk hr72; have HC167 := Aside0.mk (show y164.length ≤ c0_2 from by omega); clear hr72 hC72 hroom72 hi072 hsz72; have KY72 := Aside0.mk hy72; clear hy72; replace q72 := eq_true q72))
                         go_loopg [101] k3 (fun kq v101 w' => ∃ (x101_4 : Int), v101 = .int .i64 x101_4 ∧ Aside0 (maskref4_LimitsFault.l3 kq l0_2 (l0_2.length : Int) x83_3 y164 (y164.length : Int) x101_4 a0_0 l0_1 l0_2 l0_3 ((rd_T53 l0_2 x83_3).f0) ((rd_T53 l0_2 x83_3).f1) = some r) ∧ Aside0 (kq ≤ k3) ∧ Aside0 (w'.heap[gb149]? = some (.cells #[.int .i64 a0_0, (.slice A0_1 l0_1.length c0_1), (.slice (some ad160) l0_2.length c0_2), (.slice A0_3 l0_3.length c0_3)] 26 (0, 0))) ∧ Aside0 (w'.heap[gb161]? = some (.cells #[.string ((rd_T53 l0_2 x83_3).f0), .int .i64 ((rd_T53 l0_2 x83_3).f1)] 53 (0, 0))) ∧ Aside0 (Below w.heap.size w w'))
                         case atStart => exact ⟨(0), (by first | rfl | (simp; done) | (simp [*]; done)), H', ⟨Nat.le_refl _⟩, ⟨by (with_reducible repeat (first | refine blk_drewN ?_ _ | refine blk_drew ?_ | refine blk_alloc ?_ _)); exact BK149.out⟩, ⟨by (with_reducible repeat (first | refine blk_drewN ?_ _ | refine blk_drew ?_ | refine blk_alloc ?_ _)); exact BK161.out⟩, ⟨by repeat (first | (with_reducible first | exact HB.out | apply below_alloc | apply pw_below_drewN | apply below_drew1 | refine below_set ?_ GE149.out | refine below_set ?_ GE161.out) | exact HB.out)⟩⟩
                         case round =>
                          clear H'
                          try clear c1
                          try clear p1
                          try clear q1
                          try clear hx1
                          try clear c2
                          try clear p2
                          try clear c3
                          try clear q3
                          try clear c4
                          try clear c5
                          try clear c6
                          try clear p6
                          try clear c7
                          try clear c7b0
                          try clear c7b1
                          try clear q7
                          try clear c9
                          try clear c9b0
                          try clear c9b1
                          try clear c12
                          try clear c14
                          try clear c14b0
                          try clear c15
                          try clear c15b0
                          try clear p15
                          try clear q15
                          try clear hx15
                          try clear c16
                          try clear c16b0
                          try clear p16
                          try clear q16
                          try clear hx16
                          try clear c18
                          try clear c21
                          try clear c22
                          try clear c23
                          try clear c23b0
                          try clear c24
                          try clear c26
                          try clear c26b0
                          try clear c27
                          try clear c29
                          try clear c31
                          try clear c32
                          try clear c32b0
                          try clear c32b1
                          try clear c33
                          try clear c33b0
                          try clear c33b1
                          try clear c34
                          try clear q36
                          try clear c37
                          try clear c37b0
                          try clear c38
                          try clear c38b0
                          try clear c39
                          try clear c39b0
                          try clear c40
                          try clear c40b0
                          try clear c40b1
                          try clear c42
                          try clear c43
                          try clear c45
                          try clear c48
                          try clear c49
                          try clear c51
                          try clear c54
                          try clear c57
                          try clear c57b0
                          try clear c58
                          try clear c58b0
                          try clear c59
                          try clear c59b0
                          try clear c61
                          try clear c63
                          try clear c64
                          try clear c64b0
                          try clear p64
                          try clear c65
                          try clear c65b0
                          try clear c65b1
                          try clear c67
                          try clear q72
                          try clear hcz10_0
                          try clear hcz10_1
                          try clear hcz10_2
                          try clear hcz10_3
                          try clear hcz11_0
                          try clear hcz11_1
                          try clear hcz11_2
                          try clear hcz11_3
                          try clear hcz13_0
                          try clear hcz13_1
                          try clear hcz13_2
                          try clear hcz13_3
                          try clear hcz22_0
                          try clear hcz22_1
                          try clear hcz22_2
                          try clear hcz25_0
                          try clear hcz25_1
                          try clear hcz25_2
                          try clear hcz28_0
                          try clear hcz28_1
                          try clear hcz28_2
                          try clear hcz30_0
                          try clear hcz30_1
                          try clear hcz30_2
                          try clear hcz35_0
                          try clear hcz35_1
                          try clear hcz35_2
                          try clear hcz35_3
                          try clear hcz44_0
                          try clear hcz44_1
                          try clear hcz44_2
                          try clear hcz46_0
                          try clear hcz46_1
                          try clear hcz46_2
                          try clear hcz50_0
                          try clear hcz50_1
                          try clear hcz50_2
                          try clear hcz52_0
                          try clear hcz52_1
                          try clear hcz52_2
                          try clear hcz55_0
                          try clear hcz55_1
                          try clear hcz55_2
                          try clear hcz56_0
                          try clear hcz56_1
                          try clear hcz56_2
                          try clear hcz56_3
                          try clear hcz68_0
                          try clear hcz68_1
                          try clear hcz6_0
                          try clear hcz6_1
                          try clear hcz6_2
                          try clear hcz6_3
                          try clear hcz70_0
                          try clear hcz70_1
                          try clear hcz71_0
                          try clear hcz71_1
                          try clear hcz71_2
                          try clear hcz71_3
                          try clear hcz8_0
                          try clear hcz8_1
                          try clear hcz8_2
                          try clear hcz8_3
                          try clear hfz10_0
                          try clear hfz10_1
                          try clear hfz10_2
                          try clear hfz10_3
                          try clear hfz11_0
                          try clear hfz11_1
                          try clear hfz11_2
                          try clear hfz11_3
                          try clear hfz13_0
                          try clear hfz13_1
                          try clear hfz13_2
                          try clear hfz13_3
                          try clear hfz22_0
                          try clear hfz22_1
                          try clear hfz22_2
                          try clear hfz25_0
                          try clear hfz25_1
                          try clear hfz25_2
                          try clear hfz28_0
                          try clear hfz28_1
                          try clear hfz28_2
                          try clear hfz30_0
                          try clear hfz30_1
                          try clear hfz30_2
                          try clear hfz35_0
                          try clear hfz35_1
                          try clear hfz35_2
                          try clear hfz35_3
                          try clear hfz44_0
                          try clear hfz44_1
                          try clear hfz44_2
                          try clear hfz46_0
                          try clear hfz46_1
                          try clear hfz46_2
                          try clear hfz50_0
                          try clear hfz50_1
                          try clear hfz50_2
                          try clear hfz52_0
                          try clear hfz52_1
                          try clear hfz52_2
                          try clear hfz55_0
                          try clear hfz55_1
                          try clear hfz55_2
                          try clear hfz56_0
                          try clear hfz56_1
                          try clear hfz56_2
                          try clear hfz56_3
                          try clear hfz68_0
                          try clear hfz68_1
                          try clear hfz6_0
                          try clear hfz6_1
                          try clear hfz6_2
                          try clear hfz6_3
                          try clear hfz70_0
                          try clear hfz70_1
                          try clear hfz71_0
                          try clear hfz71_1
                          try clear hfz71_2
                          try clear hfz71_3
                          try clear hfz8_0
                          try clear hfz8_1
                          try clear hfz8_2
                          try clear hfz8_3
                          try clear hx151_0
                          try clear hx151_1
                          try clear hx151_2
                          try clear hx158_0
                          try clear hx158_1
                          try clear hx158_2
                          try clear hx160_0
                          try clear hx160_1
                          try clear p1
                          try clear p15
                          try clear p151
                          try clear p158
                          try clear p160
                          try clear p2
                          try clear p6
                          try clear q1
                          try clear q15
                          try clear q151
                          try clear q158
                          try clear q160
                          try clear q3
                          try clear q36
                          try clear q72
                          obtain ⟨x101_4, rfl, HA, HK4, BK149, BK161, HB⟩ := hrel
                          cases gk with
                          | zero => exact absurd HA.out (by simp [maskref4_LimitsFault.l3])
                          | succ k4 =>
                           have H := HA.out
                           clear HA
                           simp only [maskref4_LimitsFault.l3] at H
                           by_cases c73 : x101_4 < (y164.length : Int)
                           · rw [if_pos c73] at H
                             have c73b0 : decide (x101_4 < (y164.length : Int)) = true := decide_eq_true c73
                             clear c73
                             by_cases c74 : 0 ≤ x101_4
                             · rw [if_pos c74] at H
                               have c74b0 : decide (0 ≤ x101_4) = true := decide_eq_true c74
                               clear c74
                               by_cases c75 : x101_4 < (y164.length : Int)
                               · rw [if_pos c75] at H
                                 have c75b0 : decide (x101_4 < (y164.length : Int)) = true := decide_eq_true c75
                                 clear c75
                                 by_cases c76 : ((rd_T53 l0_2 x83_3).f0).toList = ((rd_T53 y164 x101_4).f0).toList
                                 · rw [if_pos c76] at H
                                   have c76b0 : (((rd_T53 l0_2 x83_3).f0).toList == ((rd_T53 y164 x101_4).f0).toList) = true := beq_iff_eq.mpr c76
                                   have c76b1 : (((rd_T53 l0_2 x83_3).f0).toList != ((rd_T53 y164 x101_4).f0).toList) = false := bne_eq_false_iff_eq.mpr c76
                                   clear c76
                                   obtain rfl := Option.some.inj H
                                   have p168 : 0 ≤ (x101_4 : Int) := of_decide_eq_true (by first | (with_reducible assumption) | assumption)
                                   have q168 : x101_4 < (y164.length : Int) := of_decide_eq_true (by first | (with_reducible assumption) | assumption)
                                   obtain ⟨ad168, e168, hx168_0, hx168_1⟩ := at_T53 HR167.out x101_4 p168 q168
                                   obtain rfl : ad160 = ad168 := (by injection e168)
                                   replace hx168_0 := (HB.out.cell (World.block_lt_of_cell? w _ hx168_0)).trans hx168_0
                                   replace hx168_1 := (HB.out.cell (World.block_lt_of_cell? w _ hx168_1)).trans hx168_1
                                   replace p168 := eq_true p168
                                   replace q168 := eq_true q168
                                   go_wp2_with (first | ((with_reducible refine gate_dst (N := 10) rfl ?_); (try (refine gate_guard (by rfl) ?_; dsimp only)); refine box_event ?hg (N := 10) ?hd (cs := #[.string (⟨#[]⟩ : ByteArray), .int .i64 0]) (t := 53) ?hr ?_; (case hd => rfl); (case hg => rfl); (case hr => first | (go_simp; done) | (go_simp; rfl)); intro gb169 hg w77 hbox hb; have n0_ := Aside0.mk (blk_below (g := gb149) (o := .cells #[.int .i64 a0_0, .slice A0_1 l0_1.length c0_1, .slice (some ad160) l0_2.length c0_2, .slice A0_3 l0_3.length c0_3] 26 (0, 0)) (by (with_reducible repeat (first | refine blk_drewN ?_ _ | refine blk_drew ?_ | refine blk_alloc ?_ _)); exact BK149.out) hb); have n1_ := Aside0.mk (blk_below (g := gb161) (o := .cells #[.string ((rd_T53 l0_2 x83_3).f0), .int .i64 ((rd_T53 l0_2 x83_3).f1)] 53 (0, 0)) (by (with_reducible repeat (first | refine blk_drewN ?_ _ | refine blk_drew ?_ | refine blk_alloc ?_ _)); exact BK161.out) hb); have n2_ := Aside0.mk (below_step (by repeat (first | (with_reducible first | exact HB.out | apply below_alloc | apply pw_below_drewN | apply below_drew1 | refine below_set ?_ GE149.out | refine below_set ?_ GE161.out) | exact HB.out)) hb); have n3_ := Aside0.mk (hbox); have n4_ := Aside0.mk ((by rw [hg]; exact (below_size (by repeat (first | (with_reducible first | exact HB.out | apply below_alloc | apply pw_below_drewN | apply below_drew1 | refine below_set ?_ GE149.out | refine below_set ?_ GE161.out) | exact HB.out))) : w.heap.size ≤ gb169)); have n5_ := Aside0.mk ((by rw [hg]; exact (below_size (by repeat (first | (with_reducible first | exact HB.out | apply below_alloc | apply pw_below_drewN | apply below_drew1 | refine below_set ?_ GE149.out | refine below_set ?_ GE161.out) | exact HB.out))) : w.heap.size ≤ gb169)); have n6_ := Aside0.mk ((by rw [hg]; exact Nat.ne_of_lt (blk_lt (g := gb149) (o := .cells #[.int .i64 a0_0, .slice A0_1 l0_1.length c0_1, .slice (some ad160) l0_2.length c0_2, .slice A0_3 l0_3.length c0_3] 26 (0, 0)) (by (with_reducible repeat (first | refine blk_drewN ?_ _ | refine blk_drew ?_ | refine blk_alloc ?_ _)); exact BK149.out)) : gb149 ≠ gb169)); have n7_ := Aside0.mk ((by rw [hg]; exact Nat.ne_of_gt (blk_lt (g := gb149) (o := .cells #[.int .i64 a0_0, .slice A0_1 l0_1.length c0_1, .slice (some ad160) l0_2.length c0_2, .slice A0_3 l0_3.length c0_3] 26 (0, 0)) (by (with_reducible repeat (first | refine blk_drewN ?_ _ | refine blk_drew ?_ | refine blk_alloc ?_ _)); exact BK149.out)) : gb169 ≠ gb149)); have n8_ := Aside0.mk ((by rw [hg]; exact Nat.ne_of_lt (blk_lt (g := gb161) (o := .cells #[.string ((rd_T53 l0_2 x83_3).f0), .int .i64 ((rd_T53 l0_2 x83_3).f1)] 53 (0, 0)) (by (with_reducible repeat (first | refine blk_drewN ?_ _ | refine blk_drew ?_ | refine blk_alloc ?_ _)); exact BK161.out)) : gb161 ≠ gb169)); have n9_ := Aside0.mk ((by rw [hg]; exact Nat.ne_of_gt (blk_lt (g := gb161) (o := .cells #[.string ((rd_T53 l0_2 x83_3).f0), .int .i64 ((rd_T53 l0_2 x83_3).f1)] 53 (0, 0)) (by (with_reducible repeat (first | refine blk_drewN ?_ _ | refine blk_drew ?_ | refine blk_alloc ?_ _)); exact BK161.out)) : gb169 ≠ gb161)); clear BK149; clear BK161; clear HB; have BK149 := n0_; have BK161 := n1_; have HB := n2_; have BK169 := n3_; have GW169 := n4_; have GE169 := n5_; have NB149_169 := n6_; have NB169_149 := n7_; have NB161_169 := n8_; have NB169_161 := n9_; clear n0_ n1_ n2_ n3_ n4_ n5_ n6_ n7_ n8_ n9_; clear hb hbox hg; have hnb78 := NB169_149.out; have hnc78 := NB149_169.out; have hnb79 := NB169_161.out; have hnc79 := NB161_169.out; have hcz80_0 : w77.cell? ⟨gb169, 0, none⟩ = some (.string (⟨#[]⟩ : ByteArray)) := (blk_cell BK169.out 0).trans rfl; have hcz80_1 : w77.cell? ⟨gb169, 1, none⟩ = some (.int .i64 0) := (blk_cell BK169.out 1).trans rfl; have hfz80_0 := blk_frozen BK169.out 0; have hfz80_1 := blk_frozen BK169.out 1; have hnb81 := NB161_149.out; have hnc81 := NB149_161.out; have hcz82_0 : w77.cell? ⟨gb161, 0, none⟩ = some (.string ((rd_T53 l0_2 x83_3).f0)) := (blk_cell BK161.out 0).trans rfl; have hcz82_1 : w77.cell? ⟨gb161, 1, none⟩ = some (.int .i64 ((rd_T53 l0_2 x83_3).f1)) := (blk_cell BK161.out 1).trans rfl; have hfz82_0 := blk_frozen BK161.out 0; have hfz82_1 := blk_frozen BK161.out 1))
                                   go_ret
                                   exact ⟨by first | rfl | (simp [errW_none, errW_some] <;> rfl) | (simp [*, errW_none, errW_some] <;> rfl), by repeat (first | (with_reducible first | exact HB.out | apply below_alloc | apply pw_below_drewN | apply below_drew1 | refine below_set ?_ GE149.out | refine below_set ?_ GE161.out | refine below_set ?_ GE169.out) | exact HB.out)⟩
                                 · rw [if_neg c76] at H
                                   have c76b0 : (((rd_T53 l0_2 x83_3).f0).toList == ((rd_T53 y164 x101_4).f0).toList) = false := beq_eq_false_iff_ne.mpr c76
                                   have c76b1 : (((rd_T53 l0_2 x83_3).f0).toList != ((rd_T53 y164 x101_4).f0).toList) = true := bne_iff_ne.mpr c76
                                   have H' := Aside0.mk H
                                   clear H
                                   have p168 : 0 ≤ (x101_4 : Int) := of_decide_eq_true (by first | (with_reducible assumption) | assumption)
                                   have q168 : x101_4 < (y164.length : Int) := of_decide_eq_true (by first | (with_reducible assumption) | assumption)
                                   obtain ⟨ad168, e168, hx168_0, hx168_1⟩ := at_T53 HR167.out x101_4 p168 q168
                                   obtain rfl : ad160 = ad168 := (by injection e168)
                                   replace hx168_0 := (HB.out.cell (World.block_lt_of_cell? w _ hx168_0)).trans hx168_0
                                   replace hx168_1 := (HB.out.cell (World.block_lt_of_cell? w _ hx168_1)).trans hx168_1
                                   replace p168 := eq_true p168
                                   replace q168 := eq_true q168
                                   go_wp2_with (first | ((with_reducible refine gate_dst (N := 10) rfl ?_); (try (refine gate_guard (by rfl) ?_; dsimp only)); refine box_event ?hg (N := 10) ?hd (cs := #[.string (⟨#[]⟩ : ByteArray), .int .i64 0]) (t := 53) ?hr ?_; (case hd => rfl); (case hg => rfl); (case hr => first | (go_simp; done) | (go_simp; rfl)); intro gb169 hg w83 hbox hb; have n0_ := Aside0.mk (blk_below (g := gb149) (o := .cells #[.int .i64 a0_0, .slice A0_1 l0_1.length c0_1, .slice (some ad160) l0_2.length c0_2, .slice A0_3 l0_3.length c0_3] 26 (0, 0)) (by (with_reducible repeat (first | refine blk_drewN ?_ _ | refine blk_drew ?_ | refine blk_alloc ?_ _)); exact BK149.out) hb); have n1_ := Aside0.mk (blk_below (g := gb161) (o := .cells #[.string ((rd_T53 l0_2 x83_3).f0), .int .i64 ((rd_T53 l0_2 x83_3).f1)] 53 (0, 0)) (by (with_reducible repeat (first | refine blk_drewN ?_ _ | refine blk_drew ?_ | refine blk_alloc ?_ _)); exact BK161.out) hb); have n2_ := Aside0.mk (below_step (by repeat (first | (with_reducible first | exact HB.out | apply below_alloc | apply pw_below_drewN | apply below_drew1 | refine below_set ?_ GE149.out | refine below_set ?_ GE161.out) | exact HB.out)) hb); have n3_ := Aside0.mk (hbox); have n4_ := Aside0.mk ((by rw [hg]; exact (below_size (by repeat (first | (with_reducible first | exact HB.out | apply below_alloc | apply pw_below_drewN | apply below_drew1 | refine below_set ?_ GE149.out | refine below_set ?_ GE161.out) | exact HB.out))) : w.heap.size ≤ gb169)); have n5_ := Aside0.mk ((by rw [hg]; exact (below_size (by repeat (first | (with_reducible first | exact HB.out | apply below_alloc | apply pw_below_drewN | apply below_drew1 | refine below_set ?_ GE149.out | refine below_set ?_ GE161.out) | exact HB.out))) : w.heap.size ≤ gb169)); have n6_ := Aside0.mk ((by rw [hg]; exact Nat.ne_of_lt (blk_lt (g := gb149) (o := .cells #[.int .i64 a0_0, .slice A0_1 l0_1.length c0_1, .slice (some ad160) l0_2.length c0_2, .slice A0_3 l0_3.length c0_3] 26 (0, 0)) (by (with_reducible repeat (first | refine blk_drewN ?_ _ | refine blk_drew ?_ | refine blk_alloc ?_ _)); exact BK149.out)) : gb149 ≠ gb169)); have n7_ := Aside0.mk ((by rw [hg]; exact Nat.ne_of_gt (blk_lt (g := gb149) (o := .cells #[.int .i64 a0_0, .slice A0_1 l0_1.length c0_1, .slice (some ad160) l0_2.length c0_2, .slice A0_3 l0_3.length c0_3] 26 (0, 0)) (by (with_reducible repeat (first | refine blk_drewN ?_ _ | refine blk_drew ?_ | refine blk_alloc ?_ _)); exact BK149.out)) : gb169 ≠ gb149)); have n8_ := Aside0.mk ((by rw [hg]; exact Nat.ne_of_lt (blk_lt (g := gb161) (o := .cells #[.string ((rd_T53 l0_2 x83_3).f0), .int .i64 ((rd_T53 l0_2 x83_3).f1)] 53 (0, 0)) (by (with_reducible repeat (first | refine blk_drewN ?_ _ | refine blk_drew ?_ | refine blk_alloc ?_ _)); exact BK161.out)) : gb161 ≠ gb169)); have n9_ := Aside0.mk ((by rw [hg]; exact Nat.ne_of_gt (blk_lt (g := gb161) (o := .cells #[.string ((rd_T53 l0_2 x83_3).f0), .int .i64 ((rd_T53 l0_2 x83_3).f1)] 53 (0, 0)) (by (with_reducible repeat (first | refine blk_drewN ?_ _ | refine blk_drew ?_ | refine blk_alloc ?_ _)); exact BK161.out)) : gb169 ≠ gb161)); clear BK149; clear BK161; clear HB; have BK149 := n0_; have BK161 := n1_; have HB := n2_; have BK169 := n3_; have GW169 := n4_; have GE169 := n5_; have NB149_169 := n6_; have NB169_149 := n7_; have NB161_169 := n8_; have NB169_161 := n9_; clear n0_ n1_ n2_ n3_ n4_ n5_ n6_ n7_ n8_ n9_; clear hb hbox hg; have hnb84 := NB169_149.out; have hnc84 := NB149_169.out; have hnb85 := NB169_161.out; have hnc85 := NB161_169.out; have hcz86_0 : w83.cell? ⟨gb169, 0, none⟩ = some (.string (⟨#[]⟩ : ByteArray)) := (blk_cell BK169.out 0).trans rfl; have hcz86_1 : w83.cell? ⟨gb169, 1, none⟩ = some (.int .i64 0) := (blk_cell BK169.out 1).trans rfl; have hfz86_0 := blk_frozen BK169.out 0; have hfz86_1 := blk_frozen BK169.out 1; have hnb87 := NB161_149.out; have hnc87 := NB149_161.out; have hcz88_0 : w83.cell? ⟨gb161, 0, none⟩ = some (.string ((rd_T53 l0_2 x83_3).f0)) := (blk_cell BK161.out 0).trans rfl; have hcz88_1 : w83.cell? ⟨gb161, 1, none⟩ = some (.int .i64 ((rd_T53 l0_2 x83_3).f1)) := (blk_cell BK161.out 1).trans rfl; have hfz88_0 := blk_frozen BK161.out 0; have hfz88_1 := blk_frozen BK161.out 1))
                                   go_roundg k4
                                   case measure => have := HJ3.out; have := HK2.out; have := HK3.out; have := HK4.out; omega
                                   case rel => exact ⟨(wrap64 (x101_4 + 1)), (by first | rfl | (simp; done) | (simp [*]; done)), H', ⟨by have := HJ3.out; have := HK2.out; have := HK3.out; have := HK4.out; omega⟩, ⟨by (with_reducible repeat (first | refine blk_drewN ?_ _ | refine blk_drew ?_ | refine blk_alloc ?_ _)); refine blk_far ?_ NB149_169.out _; (with_reducible repeat (first | refine blk_drewN ?_ _ | refine blk_drew ?_ | refine blk_alloc ?_ _)); refine blk_far ?_ NB149_169.out _; (with_reducible repeat (first | refine blk_drewN ?_ _ | refine blk_drew ?_ | refine blk_alloc ?_ _)); exact BK149.out⟩, ⟨by (with_reducible repeat (first | refine blk_drewN ?_ _ | refine blk_drew ?_ | refine blk_alloc ?_ _)); refine blk_far ?_ NB161_169.out _; (with_reducible repeat (first | refine blk_drewN ?_ _ | refine blk_drew ?_ | refine blk_alloc ?_ _)); refine blk_far ?_ NB161_169.out _; (with_reducible repeat (first | refine blk_drewN ?_ _ | refine blk_drew ?_ | refine blk_alloc ?_ _)); exact BK161.out⟩, ⟨by repeat (first | (with_reducible first | exact HB.out | apply below_alloc | apply pw_below_drewN | apply below_drew1 | refine below_set ?_ GE149.out | refine below_set ?_ GE161.out | refine below_set ?_ GE169.out) | exact HB.out)⟩⟩
                               · rw [if_neg c75] at H
                                 exact absurd H (by simp)
                             · rw [if_neg c74] at H
                               exact absurd H (by simp)
                           · rw [if_neg c73] at H
                             have c73b0 : decide (x101_4 < (y164.length : Int)) = false := decide_eq_false c73
                             clear c73
                             have H' := Aside0.mk H
                             clear H
                             go_wp2
                             go_roundg k4
                             case measure => have := HJ3.out; have := HK2.out; have := HK3.out; have := HK4.out; omega
                             case rel => exact ⟨(wrap64 (x83_3 + 1)), (by first | rfl | (simp; done) | (simp [*]; done)), H', ⟨by have := HJ3.out; have := HK2.out; have := HK3.out; have := HK4.out; omega⟩, ⟨by (with_reducible repeat (first | refine blk_drewN ?_ _ | refine blk_drew ?_ | refine blk_alloc ?_ _)); exact BK149.out⟩, ⟨by repeat (first | (with_reducible first | exact HB.out | apply below_alloc | apply pw_below_drewN | apply below_drew1 | refine below_set ?_ GE149.out | refine below_set ?_ GE161.out) | exact HB.out)⟩⟩
                       · rw [if_neg c65] at H
                         exact absurd H (by simp)
                     · replace c63 := Bool.eq_false_iff.mpr c63
                       subst c63
                       have H1 : (some 2) = some r := by rw [if_neg (show ¬ (false = true) by decide)] at H; exact H
                       clear H
                       have H := H1
                       clear H1
                       obtain rfl := Option.some.inj H
                       have p160 : 0 ≤ (x83_3 : Int) := of_decide_eq_true (by first | (with_reducible assumption) | assumption)
                       have q160 : x83_3 < (l0_2.length : Int) := of_decide_eq_true (by first | (with_reducible assumption) | assumption)
                       obtain ⟨ad160, e160, hx160_0, hx160_1⟩ := at_T53 HR0_2.out x83_3 p160 q160
                       cases e160
                       replace hx160_0 := (HB.out.cell (World.block_lt_of_cell? w _ hx160_0)).trans hx160_0
                       replace hx160_1 := (HB.out.cell (World.block_lt_of_cell? w _ hx160_1)).trans hx160_1
                       replace p160 := eq_true p160
                       replace q160 := eq_true q160
                       go_wp2_with (first | ((with_reducible refine gate_dst (N := 8) rfl ?_); (try (refine gate_guard (by rfl) ?_; dsimp only)); refine box_event ?hg (N := 8) ?hd (cs := #[.string (⟨#[]⟩ : ByteArray), .int .i64 0]) (t := 53) ?hr ?_; (case hd => rfl); (case hg => rfl); (case hr => first | (go_simp; done) | (go_simp; rfl)); intro gb161 hg w89 hbox hb; have n0_ := Aside0.mk (blk_below (g := gb149) (o := .cells #[.int .i64 a0_0, .slice A0_1 l0_1.length c0_1, .slice (some ad160) l0_2.length c0_2, .slice A0_3 l0_3.length c0_3] 26 (0, 0)) (by (with_reducible repeat (first | refine blk_drewN ?_ _ | refine blk_drew ?_ | refine blk_alloc ?_ _)); exact BK149.out) hb); have n1_ := Aside0.mk (below_step (by repeat (first | (with_reducible first | exact HB.out | apply below_alloc | apply pw_below_drewN | apply below_drew1 | refine below_set ?_ GE149.out) | exact HB.out)) hb); have n2_ := Aside0.mk (hbox); have n3_ := Aside0.mk ((by rw [hg]; exact (below_size (by repeat (first | (with_reducible first | exact HB.out | apply below_alloc | apply pw_below_drewN | apply below_drew1 | refine below_set ?_ GE149.out) | exact HB.out))) : w.heap.size ≤ gb161)); have n4_ := Aside0.mk ((by rw [hg]; exact (below_size (by repeat (first | (with_reducible first | exact HB.out | apply below_alloc | apply pw_below_drewN | apply below_drew1 | refine below_set ?_ GE149.out) | exact HB.out))) : w.heap.size ≤ gb161)); have n5_ := Aside0.mk ((by rw [hg]; exact Nat.ne_of_lt (blk_lt (g := gb149) (o := .cells #[.int .i64 a0_0, .slice A0_1 l0_1.length c0_1, .slice (some ad160) l0_2.length c0_2, .slice A0_3 l0_3.length c0_3] 26 (0, 0)) (by (with_reducible repeat (first | refine blk_drewN ?_ _ | refine blk_drew ?_ | refine blk_alloc ?_ _)); exact BK149.out)) : gb149 ≠ gb161)); have n6_ := Aside0.mk ((by rw [hg]; exact Nat.ne_of_gt (blk_lt (g := gb149) (o := .cells #[.int .i64 a0_0, .slice A0_1 l0_1.length c0_1, .slice (some ad160) l0_2.length c0_2, .slice A0_3 l0_3.length c0_3] 26 (0, 0)) (by (with_reducible repeat (first | refine blk_drewN ?_ _ | refine blk_drew ?_ | refine blk_alloc ?_ _)); exact BK149.out)) : gb161 ≠ gb149)); clear BK149; clear HB; have BK149 := n0_; have HB := n1_; have BK161 := n2_; have GW161 := n3_; have GE161 := n4_; have NB149_161 := n5_; have NB161_149 := n6_; clear n0_ n1_ n2_ n3_ n4_ n5_ n6_; clear hb hbox hg; have hnb90 := NB161_149.out; have hnc90 := NB149_161.out; have hcz91_0 : w89.cell? ⟨gb161, 0, none⟩ = some (.string (⟨#[]⟩ : ByteArray)) := (blk_cell BK161.out 0).trans rfl; have hcz91_1 : w89.cell? ⟨gb161, 1, none⟩ = some (.int .i64 0) := (blk_cell BK161.out 1).trans rfl; have hfz91_0 := blk_frozen BK161.out 0; have hfz91_1 := blk_frozen BK161.out 1) | ((with_reducible refine gate_callee (f := 22) rfl ?_); refine goesL_ (some 90) rfl rfl Tryd.func22 (by kernel_rfl) rfl #[.string ((rd_T53 l0_2 x83_3).f0)] rfl (by (try simp only [List.map_toArray, List.map_cons, List.map_nil]); first | done | rfl | (simp only [List.length_drop, List.length_take]; rfl)) ?_; (with_reducible refine (maskref4_name.calls k3 ((rd_T53 l0_2 x83_3).f0) true _ A60.out).mono ?_); rintro e w' ⟨rfl, ⟨nd, rfl⟩⟩; refine ⟨_, rfl, ?_⟩) | ((with_reducible refine gate_callee (f := 21) rfl ?_); refine goesL_ (some 94) rfl rfl Tryd.func21 (by kernel_rfl) rfl #[.int .i64 ((rd_T53 l0_2 x83_3).f1), .int .i64 1, .int .i64 16777216] rfl (by (try simp only [List.map_toArray, List.map_cons, List.map_nil]); first | done | rfl | (simp only [List.length_drop, List.length_take]; rfl)) ?_; (with_reducible refine (maskref4_In.calls ((rd_T53 l0_2 x83_3).f1) 1 16777216 false _ A62.out).mono ?_); rintro e w' ⟨rfl, ⟨nd, rfl⟩⟩; refine ⟨_, rfl, ?_⟩))
                       go_ret
                       exact ⟨by first | rfl | (simp [errW_none, errW_some] <;> rfl) | (simp [*, errW_none, errW_some] <;> rfl), by repeat (first | (with_reducible first | exact HB.out | apply below_alloc | apply pw_below_drewN | apply below_drew1 | refine below_set ?_ GE149.out | refine below_set ?_ GE161.out) | exact HB.out)⟩
                   · replace c61 := Bool.eq_false_iff.mpr c61
                     subst c61
                     have H1 : (some 9) = some r := by rw [if_neg (show ¬ (false = true) by decide)] at H; exact H
                     clear H
                     have H := H1
                     clear H1
                     obtain rfl := Option.some.inj H
                     have p160 : 0 ≤ (x83_3 : Int) := of_decide_eq_true (by first | (with_reducible assumption) | assumption)
                     have q160 : x83_3 < (l0_2.length : Int) := of_decide_eq_true (by first | (with_reducible assumption) | assumption)
                     obtain ⟨ad160, e160, hx160_0, hx160_1⟩ := at_T53 HR0_2.out x83_3 p160 q160
                     cases e160
                     replace hx160_0 := (HB.out.cell (World.block_lt_of_cell? w _ hx160_0)).trans hx160_0
                     replace hx160_1 := (HB.out.cell (World.block_lt_of_cell? w _ hx160_1)).trans hx160_1
                     replace p160 := eq_true p160
                     replace q160 := eq_true q160
                     go_wp2_with (first | ((with_reducible refine gate_dst (N := 8) rfl ?_); (try (refine gate_guard (by rfl) ?_; dsimp only)); refine box_event ?hg (N := 8) ?hd (cs := #[.string (⟨#[]⟩ : ByteArray), .int .i64 0]) (t := 53) ?hr ?_; (case hd => rfl); (case hg => rfl); (case hr => first | (go_simp; done) | (go_simp; rfl)); intro gb161 hg w92 hbox hb; have n0_ := Aside0.mk (blk_below (g := gb149) (o := .cells #[.int .i64 a0_0, .slice A0_1 l0_1.length c0_1, .slice (some ad160) l0_2.length c0_2, .slice A0_3 l0_3.length c0_3] 26 (0, 0)) (by (with_reducible repeat (first | refine blk_drewN ?_ _ | refine blk_drew ?_ | refine blk_alloc ?_ _)); exact BK149.out) hb); have n1_ := Aside0.mk (below_step (by repeat (first | (with_reducible first | exact HB.out | apply below_alloc | apply pw_below_drewN | apply below_drew1 | refine below_set ?_ GE149.out) | exact HB.out)) hb); have n2_ := Aside0.mk (hbox); have n3_ := Aside0.mk ((by rw [hg]; exact (below_size (by repeat (first | (with_reducible first | exact HB.out | apply below_alloc | apply pw_below_drewN | apply below_drew1 | refine below_set ?_ GE149.out) | exact HB.out))) : w.heap.size ≤ gb161)); have n4_ := Aside0.mk ((by rw [hg]; exact (below_size (by repeat (first | (with_reducible first | exact HB.out | apply below_alloc | apply pw_below_drewN | apply below_drew1 | refine below_set ?_ GE149.out) | exact HB.out))) : w.heap.size ≤ gb161)); have n5_ := Aside0.mk ((by rw [hg]; exact Nat.ne_of_lt (blk_lt (g := gb149) (o := .cells #[.int .i64 a0_0, .slice A0_1 l0_1.length c0_1, .slice (some ad160) l0_2.length c0_2, .slice A0_3 l0_3.length c0_3] 26 (0, 0)) (by (with_reducible repeat (first | refine blk_drewN ?_ _ | refine blk_drew ?_ | refine blk_alloc ?_ _)); exact BK149.out)) : gb149 ≠ gb161)); have n6_ := Aside0.mk ((by rw [hg]; exact Nat.ne_of_gt (blk_lt (g := gb149) (o := .cells #[.int .i64 a0_0, .slice A0_1 l0_1.length c0_1, .slice (some ad160) l0_2.length c0_2, .slice A0_3 l0_3.length c0_3] 26 (0, 0)) (by (with_reducible repeat (first | refine blk_drewN ?_ _ | refine blk_drew ?_ | refine blk_alloc ?_ _)); exact BK149.out)) : gb161 ≠ gb149)); clear BK149; clear HB; have BK149 := n0_; have HB := n1_; have BK161 := n2_; have GW161 := n3_; have GE161 := n4_; have NB149_161 := n5_; have NB161_149 := n6_; clear n0_ n1_ n2_ n3_ n4_ n5_ n6_; clear hb hbox hg; have hnb93 := NB161_149.out; have hnc93 := NB149_161.out; have hcz94_0 : w92.cell? ⟨gb161, 0, none⟩ = some (.string (⟨#[]⟩ : ByteArray)) := (blk_cell BK161.out 0).trans rfl; have hcz94_1 : w92.cell? ⟨gb161, 1, none⟩ = some (.int .i64 0) := (blk_cell BK161.out 1).trans rfl; have hfz94_0 := blk_frozen BK161.out 0; have hfz94_1 := blk_frozen BK161.out 1) | ((with_reducible refine gate_callee (f := 22) rfl ?_); refine goesL_ (some 90) rfl rfl Tryd.func22 (by kernel_rfl) rfl #[.string ((rd_T53 l0_2 x83_3).f0)] rfl (by (try simp only [List.map_toArray, List.map_cons, List.map_nil]); first | done | rfl | (simp only [List.length_drop, List.length_take]; rfl)) ?_; (with_reducible refine (maskref4_name.calls k3 ((rd_T53 l0_2 x83_3).f0) false _ A60.out).mono ?_); rintro e w' ⟨rfl, ⟨nd, rfl⟩⟩; refine ⟨_, rfl, ?_⟩))
                     go_ret
                     exact ⟨by first | rfl | (simp [errW_none, errW_some] <;> rfl) | (simp [*, errW_none, errW_some] <;> rfl), by repeat (first | (with_reducible first | exact HB.out | apply below_alloc | apply pw_below_drewN | apply below_drew1 | refine below_set ?_ GE149.out | refine below_set ?_ GE161.out) | exact HB.out)⟩
                 · rw [if_neg c59] at H
                   exact absurd H (by simp)
               · rw [if_neg c58] at H
                 exact absurd H (by simp)
             · rw [if_neg c57] at H
               have c57b0 : decide (x83_3 < (l0_2.length : Int)) = false := decide_eq_false c57
               clear c57
               have H' := Aside0.mk H
               clear H
               have hcz95_0 : wr.cell? ⟨gb149, 0, none⟩ = some (.int .i64 a0_0) := (blk_cell BK149.out 0).trans rfl
               have hcz95_1 : wr.cell? ⟨gb149, 1, none⟩ = some (.slice A0_1 l0_1.length c0_1) := (blk_cell BK149.out 1).trans rfl
               have hcz95_2 : wr.cell? ⟨gb149, 2, none⟩ = some (.slice A0_2 l0_2.length c0_2) := (blk_cell BK149.out 2).trans rfl
               have hcz95_3 : wr.cell? ⟨gb149, 3, none⟩ = some (.slice A0_3 l0_3.length c0_3) := (blk_cell BK149.out 3).trans rfl
               have hfz95_0 := blk_frozen BK149.out 0
               have hfz95_1 := blk_frozen BK149.out 1
               have hfz95_2 := blk_frozen BK149.out 2
               have hfz95_3 := blk_frozen BK149.out 3
               go_wp2
               go_loopg [115] k3 (fun kq v115 w' => ∃ (x115_4 : Int), v115 = .int .i64 x115_4 ∧ Aside0 (maskref4_LimitsFault.l4 kq l0_3 (l0_3.length : Int) x115_4 = some r) ∧ Aside0 (kq ≤ k3) ∧ Aside0 (w'.heap[gb149]? = some (.cells #[.int .i64 a0_0, (.slice A0_1 l0_1.length c0_1), (.slice A0_2 l0_2.length c0_2), (.slice A0_3 l0_3.length c0_3)] 26 (0, 0))) ∧ Aside0 (Below w.heap.size w w'))
               case atStart => exact ⟨(0), (by first | rfl | (simp; done) | (simp [*]; done)), H', ⟨Nat.le_refl _⟩, ⟨by (with_reducible repeat (first | refine blk_drewN ?_ _ | refine blk_drew ?_ | refine blk_alloc ?_ _)); exact BK149.out⟩, ⟨by repeat (first | (with_reducible first | exact HB.out | apply below_alloc | apply pw_below_drewN | apply below_drew1 | refine below_set ?_ GE149.out) | exact HB.out)⟩⟩
               case round =>
                clear H'
                try clear c1
                try clear p1
                try clear q1
                try clear hx1
                try clear c2
                try clear p2
                try clear c3
                try clear q3
                try clear c4
                try clear c5
                try clear c6
                try clear p6
                try clear c7
                try clear c7b0
                try clear c7b1
                try clear q7
                try clear c8
                try clear c9
                try clear c9b0
                try clear c9b1
                try clear c12
                try clear c14
                try clear c14b0
                try clear c15
                try clear c15b0
                try clear p15
                try clear q15
                try clear hx15
                try clear c16
                try clear c16b0
                try clear p16
                try clear q16
                try clear hx16
                try clear c18
                try clear c21
                try clear c22
                try clear c23
                try clear c23b0
                try clear c24
                try clear c26
                try clear c26b0
                try clear c27
                try clear c29
                try clear c31
                try clear c32
                try clear c32b0
                try clear c32b1
                try clear c33
                try clear c33b0
                try clear c33b1
                try clear c34
                try clear q36
                try clear c37
                try clear c37b0
                try clear c38
                try clear c38b0
                try clear c39
                try clear c39b0
                try clear c40
                try clear c40b0
                try clear c40b1
                try clear c42
                try clear c43
                try clear c45
                try clear c48
                try clear c49
                try clear c51
                try clear c54
                try clear c57
                try clear c57b0
                try clear c58
                try clear c58b0
                try clear c59
                try clear c59b0
                try clear c61
                try clear c63
                try clear c64
                try clear c64b0
                try clear p64
                try clear c65
                try clear c65b0
                try clear c65b1
                try clear c67
                try clear q72
                try clear c73
                try clear c73b0
                try clear c74
                try clear c74b0
                try clear c75
                try clear c75b0
                try clear c76
                try clear c76b0
                try clear c76b1
                try clear c78
                try clear c79
                try clear c81
                try clear c84
                try clear c85
                try clear c87
                try clear c90
                try clear c93
                try clear hcz10_0
                try clear hcz10_1
                try clear hcz10_2
                try clear hcz10_3
                try clear hcz11_0
                try clear hcz11_1
                try clear hcz11_2
                try clear hcz11_3
                try clear hcz13_0
                try clear hcz13_1
                try clear hcz13_2
                try clear hcz13_3
                try clear hcz22_0
                try clear hcz22_1
                try clear hcz22_2
                try clear hcz25_0
                try clear hcz25_1
                try clear hcz25_2
                try clear hcz28_0
                try clear hcz28_1
                try clear hcz28_2
                try clear hcz30_0
                try clear hcz30_1
                try clear hcz30_2
                try clear hcz35_0
                try clear hcz35_1
                try clear hcz35_2
                try clear hcz35_3
                try clear hcz44_0
                try clear hcz44_1
                try clear hcz44_2
                try clear hcz46_0
                try clear hcz46_1
                try clear hcz46_2
                try clear hcz50_0
                try clear hcz50_1
                try clear hcz50_2
                try clear hcz52_0
                try clear hcz52_1
                try clear hcz52_2
                try clear hcz55_0
                try clear hcz55_1
                try clear hcz55_2
                try clear hcz56_0
                try clear hcz56_1
                try clear hcz56_2
                try clear hcz56_3
                try clear hcz68_0
                try clear hcz68_1
                try clear hcz6_0
                try clear hcz6_1
                try clear hcz6_2
                try clear hcz6_3
                try clear hcz70_0
                try clear hcz70_1
                try clear hcz71_0
                try clear hcz71_1
                try clear hcz71_2
                try clear hcz71_3
                try clear hcz80_0
                try clear hcz80_1
                try clear hcz82_0
                try clear hcz82_1
                try clear hcz86_0
                try clear hcz86_1
                try clear hcz88_0
                try clear hcz88_1
                try clear hcz8_0
                try clear hcz8_1
                try clear hcz8_2
                try clear hcz8_3
                try clear hcz91_0
                try clear hcz91_1
                try clear hcz94_0
                try clear hcz94_1
                try clear hcz95_0
                try clear hcz95_1
                try clear hcz95_2
                try clear hcz95_3
                try clear hfz10_0
                try clear hfz10_1
                try clear hfz10_2
                try clear hfz10_3
                try clear hfz11_0
                try clear hfz11_1
                try clear hfz11_2
                try clear hfz11_3
                try clear hfz13_0
                try clear hfz13_1
                try clear hfz13_2
                try clear hfz13_3
                try clear hfz22_0
                try clear hfz22_1
                try clear hfz22_2
                try clear hfz25_0
                try clear hfz25_1
                try clear hfz25_2
                try clear hfz28_0
                try clear hfz28_1
                try clear hfz28_2
                try clear hfz30_0
                try clear hfz30_1
                try clear hfz30_2
                try clear hfz35_0
                try clear hfz35_1
                try clear hfz35_2
                try clear hfz35_3
                try clear hfz44_0
                try clear hfz44_1
                try clear hfz44_2
                try clear hfz46_0
                try clear hfz46_1
                try clear hfz46_2
                try clear hfz50_0
                try clear hfz50_1
                try clear hfz50_2
                try clear hfz52_0
                try clear hfz52_1
                try clear hfz52_2
                try clear hfz55_0
                try clear hfz55_1
                try clear hfz55_2
                try clear hfz56_0
                try clear hfz56_1
                try clear hfz56_2
                try clear hfz56_3
                try clear hfz68_0
                try clear hfz68_1
                try clear hfz6_0
                try clear hfz6_1
                try clear hfz6_2
                try clear hfz6_3
                try clear hfz70_0
                try clear hfz70_1
                try clear hfz71_0
                try clear hfz71_1
                try clear hfz71_2
                try clear hfz71_3
                try clear hfz80_0
                try clear hfz80_1
                try clear hfz82_0
                try clear hfz82_1
                try clear hfz86_0
                try clear hfz86_1
                try clear hfz88_0
                try clear hfz88_1
                try clear hfz8_0
                try clear hfz8_1
                try clear hfz8_2
                try clear hfz8_3
                try clear hfz91_0
                try clear hfz91_1
                try clear hfz94_0
                try clear hfz94_1
                try clear hfz95_0
                try clear hfz95_1
                try clear hfz95_2
                try clear hfz95_3
                try clear hx151_0
                try clear hx151_1
                try clear hx151_2
                try clear hx158_0
                try clear hx158_1
                try clear hx158_2
                try clear hx160_0
                try clear hx160_1
                try clear hx168_0
                try clear hx168_1
                try clear p1
                try clear p15
                try clear p151
                try clear p158
                try clear p16
                try clear p160
                try clear p168
                try clear p2
                try clear p6
                try clear p64
                try clear q1
                try clear q15
                try clear q151
                try clear q158
                try clear q16
                try clear q160
                try clear q168
                try clear q3
                try clear q36
                try clear q7
                try clear q72
                obtain ⟨x115_4, rfl, HA, HK4, BK149, HB⟩ := hrel
                cases gk with
                | zero => exact absurd HA.out (by simp [maskref4_LimitsFault.l4])
                | succ k4 =>
                 have H := HA.out
                 clear HA
                 simp only [maskref4_LimitsFault.l4] at H
                 by_cases c96 : x115_4 < (l0_3.length : Int)
                 · rw [if_pos c96] at H
                   have c96b0 : decide (x115_4 < (l0_3.length : Int)) = true := decide_eq_true c96
                   clear c96
                   by_cases c97 : 0 ≤ x115_4
                   · rw [if_pos c97] at H
                     have c97b0 : decide (0 ≤ x115_4) = true := decide_eq_true c97
                     clear c97
                     by_cases c98 : x115_4 < (l0_3.length : Int)
                     · rw [if_pos c98] at H
                       have c98b0 : decide (x115_4 < (l0_3.length : Int)) = true := decide_eq_true c98
                       clear c98
                       have HC99 := Aside0.mk H
                       clear H
                       have p170 : 0 ≤ (x115_4 : Int) := of_decide_eq_true (by first | (with_reducible assumption) | assumption)
                       have q170 : x115_4 < (l0_3.length : Int) := of_decide_eq_true (by first | (with_reducible assumption) | assumption)
                       obtain ⟨ad170, e170, hx170_0, hx170_1, hx170_2⟩ := at_T49 HR0_3.out x115_4 p170 q170
                       cases e170
                       replace hx170_0 := (HB.out.cell (World.block_lt_of_cell? w _ hx170_0)).trans hx170_0
                       replace hx170_1 := (HB.out.cell (World.block_lt_of_cell? w _ hx170_1)).trans hx170_1
                       replace hx170_2 := (HB.out.cell (World.block_lt_of_cell? w _ hx170_2)).trans hx170_2
                       replace p170 := eq_true p170
                       replace q170 := eq_true q170
                       go_upto_region 36 with (first | ((with_reducible refine gate_dst (N := 12) rfl ?_); (try (refine gate_guard (by rfl) ?_; dsimp only)); refine box_event ?hg (N := 12) ?hd (cs := #[.string (⟨#[]⟩ : ByteArray), .string (⟨#[]⟩ : ByteArray), .int .i64 0]) (t := 49) ?hr ?_; (case hd => rfl); (case hg => rfl); (case hr => first | (go_simp; done) | (go_simp; rfl)); intro gb171 hg w100 hbox hb; have n0_ := Aside0.mk (blk_below (g := gb149) (o := .cells #[.int .i64 a0_0, .slice A0_1 l0_1.length c0_1, .slice A0_2 l0_2.length c0_2, .slice (some ad170) l0_3.length c0_3] 26 (0, 0)) (by (with_reducible repeat (first | refine blk_drewN ?_ _ | refine blk_drew ?_ | refine blk_alloc ?_ _)); exact BK149.out) hb); have n1_ := Aside0.mk (below_step (by repeat (first | (with_reducible first | exact HB.out | apply below_alloc | apply pw_below_drewN | apply below_drew1 | refine below_set ?_ GE149.out) | exact HB.out)) hb); have n2_ := Aside0.mk (hbox); have n3_ := Aside0.mk ((by rw [hg]; exact (below_size (by repeat (first | (with_reducible first | exact HB.out | apply below_alloc | apply pw_below_drewN | apply below_drew1 | refine below_set ?_ GE149.out) | exact HB.out))) : w.heap.size ≤ gb171)); have n4_ := Aside0.mk ((by rw [hg]; exact (below_size (by repeat (first | (with_reducible first | exact HB.out | apply below_alloc | apply pw_below_drewN | apply below_drew1 | refine below_set ?_ GE149.out) | exact HB.out))) : w.heap.size ≤ gb171)); have n5_ := Aside0.mk ((by rw [hg]; exact Nat.ne_of_lt (blk_lt (g := gb149) (o := .cells #[.int .i64 a0_0, .slice A0_1 l0_1.length c0_1, .slice A0_2 l0_2.length c0_2, .slice (some ad170) l0_3.length c0_3] 26 (0, 0)) (by (with_reducible repeat (first | refine blk_drewN ?_ _ | refine blk_drew ?_ | refine blk_alloc ?_ _)); exact BK149.out)) : gb149 ≠ gb171)); have n6_ := Aside0.mk ((by rw [hg]; exact Nat.ne_of_gt (blk_lt (g := gb149) (o := .cells #[.int .i64 a0_0, .slice A0_1 l0_1.length c0_1, .slice A0_2 l0_2.length c0_2, .slice (some ad170) l0_3.length c0_3] 26 (0, 0)) (by (with_reducible repeat (first | refine blk_drewN ?_ _ | refine blk_drew ?_ | refine blk_alloc ?_ _)); exact BK149.out)) : gb171 ≠ gb149)); clear BK149; clear HB; have BK149 := n0_; have HB := n1_; have BK171 := n2_; have GW171 := n3_; have GE171 := n4_; have NB149_171 := n5_; have NB171_149 := n6_; clear n0_ n1_ n2_ n3_ n4_ n5_ n6_; clear hb hbox hg; have hnb101 := NB171_149.out; have hnc101 := NB149_171.out; have hcz102_0 : w100.cell? ⟨gb171, 0, none⟩ = some (.string (⟨#[]⟩ : ByteArray)) := (blk_cell BK171.out 0).trans rfl; have hcz102_1 : w100.cell? ⟨gb171, 1, none⟩ = some (.string (⟨#[]⟩ : ByteArray)) := (blk_cell BK171.out 1).trans rfl; have hcz102_2 : w100.cell? ⟨gb171, 2, none⟩ = some (.int .i64 0) := (blk_cell BK171.out 2).trans rfl; have hfz102_0 := blk_frozen BK171.out 0; have hfz102_1 := blk_frozen BK171.out 1; have hfz102_2 := blk_frozen BK171.out 2))
                       (try simp only [Act.put, List.setIfInBounds_toArray, List.set_cons_zero, List.set_cons_succ])
                       go_cut [128] (fun v128 wc => ∃ (kq : Nat) (x128_98 : Bool), v128 = .bool x128_98 ∧ Aside0 (maskref4_LimitsFault.j7 kq l0_3 (l0_3.length : Int) x115_4 x128_98 ((rd_T49 l0_3 x115_4).f0) ((rd_T49 l0_3 x115_4).f1) ((rd_T49 l0_3 x115_4).f2) = some r) ∧ Aside0 (kq ≤ k4) ∧ Aside0 (wc.heap[gb149]? = some (.cells #[.int .i64 a0_0, (.slice A0_1 l0_1.length c0_1), (.slice A0_2 l0_2.length c0_2), (.slice (some ad170) l0_3.length c0_3)] 26 (0, 0))) ∧ Aside0 (wc.heap[gb171]? = some (.cells #[.string ((rd_T49 l0_3 x115_4).f0), .string ((rd_T49 l0_3 x115_4).f1), .int .i64 ((rd_T49 l0_3 x115_4).f2)] 49 (0, 0))) ∧ Aside0 (Below w.heap.size w wc))
                       case first =>
                        have H := HC99.out
                        clear HC99
                        replace H := Option.bind_eq_some_iff.mp H
                        obtain ⟨t172, A1030, H⟩ := H
                        replace H : (if t172 = true then ((maskref4_Printed.f k4 ((rd_T49 l0_3 x115_4).f1)).bind fun t173 => (maskref4_LimitsFault.j7 k4 l0_3 (l0_3.length : Int) x115_4 (!t173) ((rd_T49 l0_3 x115_4).f0) ((rd_T49 l0_3 x115_4).f1) ((rd_T49 l0_3 x115_4).f2))) else (maskref4_LimitsFault.j7 k4 l0_3 (l0_3.length : Int) x115_4 true ((rd_T49 l0_3 x115_4).f0) ((rd_T49 l0_3 x115_4).f1) ((rd_T49 l0_3 x115_4).f2))) = some r := H
                        have A103 := Aside0.mk A1030
                        clear A1030
                        by_cases c104 : t172 = true
                        · subst c104
                          have H1 : ((maskref4_Printed.f k4 ((rd_T49 l0_3 x115_4).f1)).bind fun t173 => (maskref4_LimitsFault.j7 k4 l0_3 (l0_3.length : Int) x115_4 (!t173) ((rd_T49 l0_3 x115_4).f0) ((rd_T49 l0_3 x115_4).f1) ((rd_T49 l0_3 x115_4).f2))) = some r := by rw [if_pos rfl] at H; exact H
                          clear H
                          have H := H1
                          clear H1
                          replace H := Option.bind_eq_some_iff.mp H
                          obtain ⟨t173, A1050, H⟩ := H
                          replace H : (maskref4_LimitsFault.j7 k4 l0_3 (l0_3.length : Int) x115_4 (!t173) ((rd_T49 l0_3 x115_4).f0) ((rd_T49 l0_3 x115_4).f1) ((rd_T49 l0_3 x115_4).f2)) = some r := H
                          have A105 := Aside0.mk A1050
                          clear A1050
                          have H' := Aside0.mk H
                          clear H
                          have hnb106 := NB171_149.out
                          have hnc106 := NB149_171.out
                          have hcz107_0 : w100.cell? ⟨gb171, 0, none⟩ = some (.string (⟨#[]⟩ : ByteArray)) := (blk_cell BK171.out 0).trans rfl
                          have hcz107_1 : w100.cell? ⟨gb171, 1, none⟩ = some (.string (⟨#[]⟩ : ByteArray)) := (blk_cell BK171.out 1).trans rfl
                          have hcz107_2 : w100.cell? ⟨gb171, 2, none⟩ = some (.int .i64 0) := (blk_cell BK171.out 2).trans rfl
                          have hfz107_0 := blk_frozen BK171.out 0
                          have hfz107_1 := blk_frozen BK171.out 1
                          have hfz107_2 := blk_frozen BK171.out 2
                          go_wp2_with (first | ((with_reducible refine gate_callee (f := 23) rfl ?_); refine goesL_ (some 121) rfl rfl Tryd.func23 (by kernel_rfl) rfl #[.string ((rd_T49 l0_3 x115_4).f0)] rfl (by (try simp only [List.map_toArray, List.map_cons, List.map_nil]); first | done | rfl | (simp only [List.length_drop, List.length_take]; rfl)) ?_; (with_reducible refine (maskref4_Printed.calls k4 ((rd_T49 l0_3 x115_4).f0) true _ A103.out).mono ?_); rintro e w' ⟨rfl, ⟨nd, rfl⟩⟩; refine ⟨_, rfl, ?_⟩) | (go_at_call 23; (with_reducible refine (maskref4_Printed.calls k4 ((rd_T49 l0_3 x115_4).f1) t173 _ A105.out).mono ?_); rintro e w' ⟨rfl, ⟨nd, rfl⟩⟩))
                          go_meet
                          case rel => exact ⟨_, (!t173), (by first | rfl | (simp; done) | (simp [*]; done)), H', ⟨by have := HJ3.out; have := HK2.out; have := HK3.out; have := HK4.out; first | omega | exact Nat.le_refl _⟩, ⟨by (with_reducible repeat (first | refine blk_drewN ?_ _ | refine blk_drew ?_ | refine blk_alloc ?_ _)); refine blk_far ?_ NB149_171.out _; (with_reducible repeat (first | refine blk_drewN ?_ _ | refine blk_drew ?_ | refine blk_alloc ?_ _)); refine blk_far ?_ NB149_171.out _; (with_reducible repeat (first | refine blk_drewN ?_ _ | refine blk_drew ?_ | refine blk_alloc ?_ _)); refine blk_far ?_ NB149_171.out _; (with_reducible repeat (first | refine blk_drewN ?_ _ | refine blk_drew ?_ | refine blk_alloc ?_ _)); exact BK149.out⟩, ⟨by (with_reducible repeat (first | refine blk_drewN ?_ _ | refine blk_drew ?_ | refine blk_alloc ?_ _)); refine blk_put (cs := #[.string ((rd_T49 l0_3 x115_4).f0), .string ((rd_T49 l0_3 x115_4).f1), .int .i64 0]) ?_ 2 _ rfl; (with_reducible repeat (first | refine blk_drewN ?_ _ | refine blk_drew ?_ | refine blk_alloc ?_ _)); refine blk_put (cs := #[.string ((rd_T49 l0_3 x115_4).f0), .string (⟨#[]⟩ : ByteArray), .int .i64 0]) ?_ 1 _ rfl; (with_reducible repeat (first | refine blk_drewN ?_ _ | refine blk_drew ?_ | refine blk_alloc ?_ _)); refine blk_put (cs := #[.string (⟨#[]⟩ : ByteArray), .string (⟨#[]⟩ : ByteArray), .int .i64 0]) ?_ 0 _ rfl; (with_reducible repeat (first | refine blk_drewN ?_ _ | refine blk_drew ?_ | refine blk_alloc ?_ _)); exact BK171.out⟩, ⟨by repeat (first | (with_reducible first | exact HB.out | apply below_alloc | apply pw_below_drewN | apply below_drew1 | refine below_set ?_ GE149.out | refine below_set ?_ GE171.out) | exact HB.out)⟩⟩
                        · replace c104 := Bool.eq_false_iff.mpr c104
                          subst c104
                          have H1 : (maskref4_LimitsFault.j7 k4 l0_3 (l0_3.length : Int) x115_4 true ((rd_T49 l0_3 x115_4).f0) ((rd_T49 l0_3 x115_4).f1) ((rd_T49 l0_3 x115_4).f2)) = some r := by rw [if_neg (show ¬ (false = true) by decide)] at H; exact H
                          clear H
                          have H := H1
                          clear H1
                          have H' := Aside0.mk H
                          clear H
                          have hnb108 := NB171_149.out
                          have hnc108 := NB149_171.out
                          have hcz109_0 : w100.cell? ⟨gb171, 0, none⟩ = some (.string (⟨#[]⟩ : ByteArray)) := (blk_cell BK171.out 0).trans rfl
                          have hcz109_1 : w100.cell? ⟨gb171, 1, none⟩ = some (.string (⟨#[]⟩ : ByteArray)) := (blk_cell BK171.out 1).trans rfl
                          have hcz109_2 : w100.cell? ⟨gb171, 2, none⟩ = some (.int .i64 0) := (blk_cell BK171.out 2).trans rfl
                          have hfz109_0 := blk_frozen BK171.out 0
                          have hfz109_1 := blk_frozen BK171.out 1
                          have hfz109_2 := blk_frozen BK171.out 2
                          go_wp2_with (first | ((with_reducible refine gate_callee (f := 23) rfl ?_); refine goesL_ (some 121) rfl rfl Tryd.func23 (by kernel_rfl) rfl #[.string ((rd_T49 l0_3 x115_4).f0)] rfl (by (try simp only [List.map_toArray, List.map_cons, List.map_nil]); first | done | rfl | (simp only [List.length_drop, List.length_take]; rfl)) ?_; (with_reducible refine (maskref4_Printed.calls k4 ((rd_T49 l0_3 x115_4).f0) false _ A103.out).mono ?_); rintro e w' ⟨rfl, ⟨nd, rfl⟩⟩; refine ⟨_, rfl, ?_⟩))
                          go_meet
                          case rel => exact ⟨_, (true), (by first | rfl | (simp; done) | (simp [*]; done)), H', ⟨by have := HJ3.out; have := HK2.out; have := HK3.out; have := HK4.out; first | omega | exact Nat.le_refl _⟩, ⟨by (with_reducible repeat (first | refine blk_drewN ?_ _ | refine blk_drew ?_ | refine blk_alloc ?_ _)); refine blk_far ?_ NB149_171.out _; (with_reducible repeat (first | refine blk_drewN ?_ _ | refine blk_drew ?_ | refine blk_alloc ?_ _)); refine blk_far ?_ NB149_171.out _; (with_reducible repeat (first | refine blk_drewN ?_ _ | refine blk_drew ?_ | refine blk_alloc ?_ _)); refine blk_far ?_ NB149_171.out _; (with_reducible repeat (first | refine blk_drewN ?_ _ | refine blk_drew ?_ | refine blk_alloc ?_ _)); exact BK149.out⟩, ⟨by (with_reducible repeat (first | refine blk_drewN ?_ _ | refine blk_drew ?_ | refine blk_alloc ?_ _)); refine blk_put (cs := #[.string ((rd_T49 l0_3 x115_4).f0), .string ((rd_T49 l0_3 x115_4).f1), .int .i64 0]) ?_ 2 _ rfl; (with_reducible repeat (first | refine blk_drewN ?_ _ | refine blk_drew ?_ | refine blk_alloc ?_ _)); refine blk_put (cs := #[.string ((rd_T49 l0_3 x115_4).f0), .string (⟨#[]⟩ : ByteArray), .int .i64 0]) ?_ 1 _ rfl; (with_reducible repeat (first | refine blk_drewN ?_ _ | refine blk_drew ?_ | refine blk_alloc ?_ _)); refine blk_put (cs := #[.string (⟨#[]⟩ : ByteArray), .string (⟨#[]⟩ : ByteArray), .int .i64 0]) ?_ 0 _ rfl; (with_reducible repeat (first | refine blk_drewN ?_ _ | refine blk_drew ?_ | refine blk_alloc ?_ _)); exact BK171.out⟩, ⟨by repeat (first | (with_reducible first | exact HB.out | apply below_alloc | apply pw_below_drewN | apply below_drew1 | refine below_set ?_ GE149.out | refine below_set ?_ GE171.out) | exact HB.out)⟩⟩
                       case rest =>
                        clear HC99
                        try clear c1
                        try clear p1
                        try clear q1
                        try clear hx1
                        try clear c2
                        try clear p2
                        try clear c3
                        try clear q3
                        try clear c4
                        try clear c5
                        try clear c6
                        try clear p6
                        try clear c7
                        try clear c7b0
                        try clear c7b1
                        try clear q7
                        try clear c8
                        try clear c9
                        try clear c9b0
                        try clear c9b1
                        try clear c10
                        try clear c12
                        try clear c14
                        try clear c14b0
                        try clear c15
                        try clear c15b0
                        try clear p15
                        try clear q15
                        try clear hx15
                        try clear c16
                        try clear c16b0
                        try clear p16
                        try clear q16
                        try clear hx16
                        try clear p17
                        try clear q17
                        try clear hx17
                        try clear c18
                        try clear c21
                        try clear c22
                        try clear c23
                        try clear c23b0
                        try clear c24
                        try clear c26
                        try clear c26b0
                        try clear c27
                        try clear c29
                        try clear c31
                        try clear c32
                        try clear c32b0
                        try clear c32b1
                        try clear c33
                        try clear c33b0
                        try clear c33b1
                        try clear c34
                        try clear q36
                        try clear c37
                        try clear c37b0
                        try clear c38
                        try clear c38b0
                        try clear c39
                        try clear c39b0
                        try clear c40
                        try clear c40b0
                        try clear c40b1
                        try clear c42
                        try clear c43
                        try clear c45
                        try clear c48
                        try clear c49
                        try clear c51
                        try clear c54
                        try clear c57
                        try clear c57b0
                        try clear c58
                        try clear c58b0
                        try clear c59
                        try clear c59b0
                        try clear c61
                        try clear c63
                        try clear c64
                        try clear c64b0
                        try clear p64
                        try clear c65
                        try clear c65b0
                        try clear c65b1
                        try clear c67
                        try clear q72
                        try clear c73
                        try clear c73b0
                        try clear c74
                        try clear c74b0
                        try clear c75
                        try clear c75b0
                        try clear c76
                        try clear c76b0
                        try clear c76b1
                        try clear c78
                        try clear c79
                        try clear c81
                        try clear c84
                        try clear c85
                        try clear c87
                        try clear c90
                        try clear c93
                        try clear c96
                        try clear c96b0
                        try clear c97
                        try clear c97b0
                        try clear c98
                        try clear c98b0
                        try clear c101
                        try clear c104
                        try clear c106
                        try clear c108
                        try clear hcz102_0
                        try clear hcz102_1
                        try clear hcz102_2
                        try clear hcz107_0
                        try clear hcz107_1
                        try clear hcz107_2
                        try clear hcz109_0
                        try clear hcz109_1
                        try clear hcz109_2
                        try clear hcz10_0
                        try clear hcz10_1
                        try clear hcz10_2
                        try clear hcz10_3
                        try clear hcz11_0
                        try clear hcz11_1
                        try clear hcz11_2
                        try clear hcz11_3
                        try clear hcz13_0
                        try clear hcz13_1
                        try clear hcz13_2
                        try clear hcz13_3
                        try clear hcz22_0
                        try clear hcz22_1
                        try clear hcz22_2
                        try clear hcz25_0
                        try clear hcz25_1
                        try clear hcz25_2
                        try clear hcz28_0
                        try clear hcz28_1
                        try clear hcz28_2
                        try clear hcz30_0
                        try clear hcz30_1
                        try clear hcz30_2
                        try clear hcz35_0
                        try clear hcz35_1
                        try clear hcz35_2
                        try clear hcz35_3
                        try clear hcz44_0
                        try clear hcz44_1
                        try clear hcz44_2
                        try clear hcz46_0
                        try clear hcz46_1
                        try clear hcz46_2
                        try clear hcz50_0
                        try clear hcz50_1
                        try clear hcz50_2
                        try clear hcz52_0
                        try clear hcz52_1
                        try clear hcz52_2
                        try clear hcz55_0
                        try clear hcz55_1
                        try clear hcz55_2
                        try clear hcz56_0
                        try clear hcz56_1
                        try clear hcz56_2
                        try clear hcz56_3
                        try clear hcz68_0
                        try clear hcz68_1
                        try clear hcz6_0
                        try clear hcz6_1
                        try clear hcz6_2
                        try clear hcz6_3
                        try clear hcz70_0
                        try clear hcz70_1
                        try clear hcz71_0
                        try clear hcz71_1
                        try clear hcz71_2
                        try clear hcz71_3
                        try clear hcz80_0
                        try clear hcz80_1
                        try clear hcz82_0
                        try clear hcz82_1
                        try clear hcz86_0
                        try clear hcz86_1
                        try clear hcz88_0
                        try clear hcz88_1
                        try clear hcz8_0
                        try clear hcz8_1
                        try clear hcz8_2
                        try clear hcz8_3
                        try clear hcz91_0
                        try clear hcz91_1
                        try clear hcz94_0
                        try clear hcz94_1
                        try clear hcz95_0
                        try clear hcz95_1
                        try clear hcz95_2
                        try clear hcz95_3
                        try clear hfz102_0
                        try clear hfz102_1
                        try clear hfz102_2
                        try clear hfz107_0
                        try clear hfz107_1
                        try clear hfz107_2
                        try clear hfz109_0
                        try clear hfz109_1
                        try clear hfz109_2
                        try clear hfz10_0
                        try clear hfz10_1
                        try clear hfz10_2
                        try clear hfz10_3
                        try clear hfz11_0
                        try clear hfz11_1
                        try clear hfz11_2
                        try clear hfz11_3
                        try clear hfz13_0
                        try clear hfz13_1
                        try clear hfz13_2
                        try clear hfz13_3
                        try clear hfz22_0
                        try clear hfz22_1
                        try clear hfz22_2
                        try clear hfz25_0
                        try clear hfz25_1
                        try clear hfz25_2
                        try clear hfz28_0
                        try clear hfz28_1
                        try clear hfz28_2
                        try clear hfz30_0
                        try clear hfz30_1
                        try clear hfz30_2
                        try clear hfz35_0
                        try clear hfz35_1
                        try clear hfz35_2
                        try clear hfz35_3
                        try clear hfz44_0
                        try clear hfz44_1
                        try clear hfz44_2
                        try clear hfz46_0
                        try clear hfz46_1
                        try clear hfz46_2
                        try clear hfz50_0
                        try clear hfz50_1
                        try clear hfz50_2
                        try clear hfz52_0
                        try clear hfz52_1
                        try clear hfz52_2
                        try clear hfz55_0
                        try clear hfz55_1
                        try clear hfz55_2
                        try clear hfz56_0
                        try clear hfz56_1
                        try clear hfz56_2
                        try clear hfz56_3
                        try clear hfz68_0
                        try clear hfz68_1
                        try clear hfz6_0
                        try clear hfz6_1
                        try clear hfz6_2
                        try clear hfz6_3
                        try clear hfz70_0
                        try clear hfz70_1
                        try clear hfz71_0
                        try clear hfz71_1
                        try clear hfz71_2
                        try clear hfz71_3
                        try clear hfz80_0
                        try clear hfz80_1
                        try clear hfz82_0
                        try clear hfz82_1
                        try clear hfz86_0
                        try clear hfz86_1
                        try clear hfz88_0
                        try clear hfz88_1
                        try clear hfz8_0
                        try clear hfz8_1
                        try clear hfz8_2
                        try clear hfz8_3
                        try clear hfz91_0
                        try clear hfz91_1
                        try clear hfz94_0
                        try clear hfz94_1
                        try clear hfz95_0
                        try clear hfz95_1
                        try clear hfz95_2
                        try clear hfz95_3
                        try clear hx151_0
                        try clear hx151_1
                        try clear hx151_2
                        try clear hx158_0
                        try clear hx158_1
                        try clear hx158_2
                        try clear hx160_0
                        try clear hx160_1
                        try clear hx168_0
                        try clear hx168_1
                        try clear hx170_0
                        try clear hx170_1
                        try clear hx170_2
                        try clear p1
                        try clear p15
                        try clear p151
                        try clear p158
                        try clear p16
                        try clear p160
                        try clear p168
                        try clear p170
                        try clear p2
                        try clear p6
                        try clear p64
                        try clear q1
                        try clear q15
                        try clear q151
                        try clear q158
                        try clear q16
                        try clear q160
                        try clear q168
                        try clear q170
                        try clear q3
                        try clear q36
                        try clear q7
                        try clear q72
                        obtain ⟨kq, x128_98, rfl, HA, HJ98, BK149, BK171, HB⟩ := hcut
                        cases kq with
                        | zero => exact absurd HA.out (by simp [maskref4_LimitsFault.j7])
                        | succ kj98 =>
                         have H := HA.out
                         clear HA
                         simp only [maskref4_LimitsFault.j7] at H
                         by_cases c110 : x128_98 = true
                         · subst c110
                           have H1 : (some 9) = some r := by rw [if_pos rfl] at H; exact H
                           clear H
                           have H := H1
                           clear H1
                           obtain rfl := Option.some.inj H
                           go_wp2
                           go_ret
                           exact ⟨by first | rfl | (simp [errW_none, errW_some] <;> rfl) | (simp [*, errW_none, errW_some] <;> rfl), by repeat (first | (with_reducible first | exact HB.out | apply below_alloc | apply pw_below_drewN | apply below_drew1 | refine below_set ?_ GE149.out | refine below_set ?_ GE171.out) | exact HB.out)⟩
                         · replace c110 := Bool.eq_false_iff.mpr c110
                           subst c110
                           have H1 : (if ((rd_T49 l0_3 x115_4).f2) = 0 then (maskref4_LimitsFault.l4 kj98 l0_3 (l0_3.length : Int) (wrap64 (x115_4 + 1))) else ((maskref4_In.f ((rd_T49 l0_3 x115_4).f2) 2 16).bind fun t174 => (if t174 = true then (maskref4_LimitsFault.l4 kj98 l0_3 (l0_3.length : Int) (wrap64 (x115_4 + 1))) else (some 2)))) = some r := by rw [if_neg (show ¬ (false = true) by decide)] at H; exact H
                           clear H
                           have H := H1
                           clear H1
                           by_cases c111 : ((rd_T49 l0_3 x115_4).f2) = 0
                           · rw [if_pos c111] at H
                             have c111b0 : (((rd_T49 l0_3 x115_4).f2) == 0) = true := beq_iff_eq.mpr c111
                             have c111b1 : (((rd_T49 l0_3 x115_4).f2) != 0) = false := bne_eq_false_iff_eq.mpr c111
                             clear c111
                             have H' := Aside0.mk H
                             clear H
                             have hnb112 := NB171_149.out
                             have hnc112 := NB149_171.out
                             have hcz113_0 : wc.cell? ⟨gb171, 0, none⟩ = some (.string ((rd_T49 l0_3 x115_4).f0)) := (blk_cell BK171.out 0).trans rfl
                             have hcz113_1 : wc.cell? ⟨gb171, 1, none⟩ = some (.string ((rd_T49 l0_3 x115_4).f1)) := (blk_cell BK171.out 1).trans rfl
                             have hcz113_2 : wc.cell? ⟨gb171, 2, none⟩ = some (.int .i64 ((rd_T49 l0_3 x115_4).f2)) := (blk_cell BK171.out 2).trans rfl
                             have hfz113_0 := blk_frozen BK171.out 0
                             have hfz113_1 := blk_frozen BK171.out 1
                             have hfz113_2 := blk_frozen BK171.out 2
                             go_wp2
                             go_roundg kj98
                             case measure => have := HJ3.out; have := HK2.out; have := HK3.out; have := HK4.out; have := HJ98.out; omega
                             case rel => exact ⟨(wrap64 (x115_4 + 1)), (by first | rfl | (simp; done) | (simp [*]; done)), H', ⟨by have := HJ3.out; have := HK2.out; have := HK3.out; have := HK4.out; have := HJ98.out; omega⟩, ⟨by (with_reducible repeat (first | refine blk_drewN ?_ _ | refine blk_drew ?_ | refine blk_alloc ?_ _)); exact BK149.out⟩, ⟨by repeat (first | (with_reducible first | exact HB.out | apply below_alloc | apply pw_below_drewN | apply below_drew1 | refine below_set ?_ GE149.out | refine below_set ?_ GE171.out) | exact HB.out)⟩⟩
                           · rw [if_neg c111] at H
                             have c111b0 : (((rd_T49 l0_3 x115_4).f2) == 0) = false := beq_eq_false_iff_ne.mpr c111
                             have c111b1 : (((rd_T49 l0_3 x115_4).f2) != 0) = true := bne_iff_ne.mpr c111
                             replace H := Option.bind_eq_some_iff.mp H
                             obtain ⟨t174, A1140, H⟩ := H
                             replace H : (if t174 = true then (maskref4_LimitsFault.l4 kj98 l0_3 (l0_3.length : Int) (wrap64 (x115_4 + 1))) else (some 2)) = some r := H
                             have A114 := Aside0.mk A1140
                             clear A1140
                             by_cases c115 : t174 = true
                             · subst c115
                               have H1 : (maskref4_LimitsFault.l4 kj98 l0_3 (l0_3.length : Int) (wrap64 (x115_4 + 1))) = some r := by rw [if_pos rfl] at H; exact H
                               clear H
                               have H := H1
                               clear H1
                               have H' := Aside0.mk H
                               clear H
                               have hnb116 := NB171_149.out
                               have hnc116 := NB149_171.out
                               have hcz117_0 : wc.cell? ⟨gb171, 0, none⟩ = some (.string ((rd_T49 l0_3 x115_4).f0)) := (blk_cell BK171.out 0).trans rfl
                               have hcz117_1 : wc.cell? ⟨gb171, 1, none⟩ = some (.string ((rd_T49 l0_3 x115_4).f1)) := (blk_cell BK171.out 1).trans rfl
                               have hcz117_2 : wc.cell? ⟨gb171, 2, none⟩ = some (.int .i64 ((rd_T49 l0_3 x115_4).f2)) := (blk_cell BK171.out 2).trans rfl
                               have hfz117_0 := blk_frozen BK171.out 0
                               have hfz117_1 := blk_frozen BK171.out 1
                               have hfz117_2 := blk_frozen BK171.out 2
                               go_wp2_with (first | (go_at_call 21; (with_reducible refine (maskref4_In.calls ((rd_T49 l0_3 x115_4).f2) 2 16 true _ A114.out).mono ?_); rintro e w' ⟨rfl, ⟨nd, rfl⟩⟩))
                               go_roundg kj98
                               case measure => have := HJ3.out; have := HK2.out; have := HK3.out; have := HK4.out; have := HJ98.out; omega
                               case rel => exact ⟨(wrap64 (x115_4 + 1)), (by first | rfl | (simp; done) | (simp [*]; done)), H', ⟨by have := HJ3.out; have := HK2.out; have := HK3.out; have := HK4.out; have := HJ98.out; omega⟩, ⟨by (with_reducible repeat (first | refine blk_drewN ?_ _ | refine blk_drew ?_ | refine blk_alloc ?_ _)); exact BK149.out⟩, ⟨by repeat (first | (with_reducible first | exact HB.out | apply below_alloc | apply pw_below_drewN | apply below_drew1 | refine below_set ?_ GE149.out | refine below_set ?_ GE171.out) | exact HB.out)⟩⟩
                             · replace c115 := Bool.eq_false_iff.mpr c115
                               subst c115
                               have H1 : (some 2) = some r := by rw [if_neg (show ¬ (false = true) by decide)] at H; exact H
                               clear H
                               have H := H1
                               clear H1
                               obtain rfl := Option.some.inj H
                               have hnb118 := NB171_149.out
                               have hnc118 := NB149_171.out
                               have hcz119_0 : wc.cell? ⟨gb171, 0, none⟩ = some (.string ((rd_T49 l0_3 x115_4).f0)) := (blk_cell BK171.out 0).trans rfl
                               have hcz119_1 : wc.cell? ⟨gb171, 1, none⟩ = some (.string ((rd_T49 l0_3 x115_4).f1)) := (blk_cell BK171.out 1).trans rfl
                               have hcz119_2 : wc.cell? ⟨gb171, 2, none⟩ = some (.int .i64 ((rd_T49 l0_3 x115_4).f2)) := (blk_cell BK171.out 2).trans rfl
                               have hfz119_0 := blk_frozen BK171.out 0
                               have hfz119_1 := blk_frozen BK171.out 1
                               have hfz119_2 := blk_frozen BK171.out 2
                               go_wp2_with (first | (go_at_call 21; (with_reducible refine (maskref4_In.calls ((rd_T49 l0_3 x115_4).f2) 2 16 false _ A114.out).mono ?_); rintro e w' ⟨rfl, ⟨nd, rfl⟩⟩))
                               go_ret
                               exact ⟨by first | rfl | (simp [errW_none, errW_some] <;> rfl) | (simp [*, errW_none, errW_some] <;> rfl), by repeat (first | (with_reducible first | exact HB.out | apply below_alloc | apply pw_below_drewN | apply below_drew1 | refine below_set ?_ GE149.out | refine below_set ?_ GE171.out) | exact HB.out)⟩
                     · rw [if_neg c98] at H
                       exact absurd H (by simp)
                   · rw [if_neg c97] at H
                     exact absurd H (by simp)
                 · rw [if_neg c96] at H
                   have c96b0 : decide (x115_4 < (l0_3.length : Int)) = false := decide_eq_false c96
                   clear c96
                   obtain rfl := Option.some.inj H
                   go_wp2
                   go_ret
                   exact ⟨by first | rfl | (simp [errW_none, errW_some] <;> rfl) | (simp [*, errW_none, errW_some] <;> rfl), by repeat (first | (with_reducible first | exact HB.out | apply below_alloc | apply pw_below_drewN | apply below_drew1 | refine below_set ?_ GE149.out) | exact HB.out)⟩
 · replace c3 := Bool.eq_false_iff.mpr c3
   subst c3
   have H1 : (some 2) = some r := by rw [if_neg (show ¬ (false = true) by decide)] at H; exact H
   clear H
   have H := H1
   clear H1
   obtain rfl := Option.some.inj H
   go_enter Tryd.func14, Tryd.ntmps14
   go_wp2_with (first | ((with_reducible refine gate_dst (N := 1) rfl ?_); (try (refine gate_guard (by rfl) ?_; dsimp only)); refine box_event ?hg (N := 1) ?hd (cs := #[.int .i64 a0_0, .slice A0_1 l0_1.length c0_1, .slice A0_2 l0_2.length c0_2, .slice A0_3 l0_3.length c0_3]) (t := 26) ?hr ?_; (case hd => rfl); (case hg => rfl); (case hr => first | (go_simp; done) | (go_simp; rfl)); intro gb149 hg w120 hbox hb; have n0_ := Aside0.mk (below_step (by repeat (first | (with_reducible first | exact HB.out | apply below_alloc | apply pw_below_drewN | apply below_drew1) | exact HB.out)) hb); have n1_ := Aside0.mk (hbox); have n2_ := Aside0.mk ((by rw [hg]; exact (below_size (by repeat (first | (with_reducible first | exact HB.out | apply below_alloc | apply pw_below_drewN | apply below_drew1) | exact HB.out))) : w.heap.size ≤ gb149)); have n3_ := Aside0.mk ((by rw [hg]; exact (below_size (by repeat (first | (with_reducible first | exact HB.out | apply below_alloc | apply pw_below_drewN | apply below_drew1) | exact HB.out))) : w.heap.size ≤ gb149)); clear HB; have HB := n0_; have BK149 := n1_; have GW149 := n2_; have GE149 := n3_; clear n0_ n1_ n2_ n3_; clear hb hbox hg; have hcz121_0 : w120.cell? ⟨gb149, 0, none⟩ = some (.int .i64 a0_0) := (blk_cell BK149.out 0).trans rfl; have hcz121_1 : w120.cell? ⟨gb149, 1, none⟩ = some (.slice A0_1 l0_1.length c0_1) := (blk_cell BK149.out 1).trans rfl; have hcz121_2 : w120.cell? ⟨gb149, 2, none⟩ = some (.slice A0_2 l0_2.length c0_2) := (blk_cell BK149.out 2).trans rfl; have hcz121_3 : w120.cell? ⟨gb149, 3, none⟩ = some (.slice A0_3 l0_3.length c0_3) := (blk_cell BK149.out 3).trans rfl; have hfz121_0 := blk_frozen BK149.out 0; have hfz121_1 := blk_frozen BK149.out 1; have hfz121_2 := blk_frozen BK149.out 2; have hfz121_3 := blk_frozen BK149.out 3) | ((with_reducible refine gate_callee (f := 21) rfl ?_); refine goesL_ (some 15) rfl rfl Tryd.func21 (by kernel_rfl) rfl #[.int .i64 a0_0, .int .i64 1, .int .i64 67108864] rfl (by (try simp only [List.map_toArray, List.map_cons, List.map_nil]); first | done | rfl | (simp only [List.length_drop, List.length_take]; rfl)) ?_; (with_reducible refine (maskref4_In.calls a0_0 1 67108864 false _ A2.out).mono ?_); rintro e w' ⟨rfl, ⟨nd, rfl⟩⟩; refine ⟨_, rfl, ?_⟩))
   go_ret
   exact ⟨by first | rfl | (simp [errW_none, errW_some] <;> rfl) | (simp [*, errW_none, errW_some] <;> rfl), by repeat (first | (with_reducible first | exact HB.out | apply below_alloc | apply pw_below_drewN | apply below_drew1 | refine below_set ?_ GE149.out) | exact HB.out)⟩

end Go.Proofs.YtodgaaggmlgenaaDoor.PC
