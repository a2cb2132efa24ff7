-- PRINTED by print.py (a twelfth state) out of the translation. Not trusted: Lean checks it.
import Derived.Test.YtagpbgabcenodaaPBx0
import Derived.Test.YtagpbgabcenodaaPBx8
import Derived.Test.YtagpbgabcenodaaPBx9
import Derived.Test.YtagpbgabcenodaaPBx10
namespace Go.Proofs.Ytagpbgabcenodaa.PB
open Go.RowKit Go.Proofs.YtagpbgabcenodaaW.PrintWords Go.Proofs.YtagpbgabcenodaaW.PrintLast Go.Proofs.YtagpbgabcenodaaW.PrintMore
attribute [local go_sem] max2_int min2_int max_two min_two max_three min_three max_four min_four   -- for this text's walks alone
set_option linter.unusedVariables false
set_option linter.unusedSimpArgs false

/-! ### lib_CheckCell: function 43 -/
mutual
def lib_CheckCell.j0 : Nat → Int → Int → Int → ByteArray → Bool → Int → Int → Int → List Int → List Int → List Int → Int → Int → Int → Option (Int)
 | 0, _, _, _, _, _, _, _, _, _, _, _, _, _, _ => none
 | k + 1, x3, x4, x5, x128000, x128001, x128002, x128003, x128004, x128005, x128006, x128007, x128008, x128009, x128010 => if x128002 < x3 then (lib_CheckCell.j1 k x4 x5 true x128000 x128001 x128002 x128003 x128004 x128005 x128006 x128007 x128008 x128009 x128010) else (if x128002 > 6 then (lib_CheckCell.j1 k x4 x5 true x128000 x128001 x128002 x128003 x128004 x128005 x128006 x128007 x128008 x128009 x128010) else (if x128001 = true then (lib_CheckCell.j1 k x4 x5 (decide (x128002 > 2)) x128000 x128001 x128002 x128003 x128004 x128005 x128006 x128007 x128008 x128009 x128010) else (lib_CheckCell.j1 k x4 x5 false x128000 x128001 x128002 x128003 x128004 x128005 x128006 x128007 x128008 x128009 x128010)))
def lib_CheckCell.j6 : Nat → ByteArray → Bool → Int → Int → Int → List Int → List Int → List Int → Int → Int → Int → Option (Int)
 | 0, _, _, _, _, _, _, _, _, _, _, _ => none
 | k + 1, x128000, x128001, x128002, x128003, x128004, x128005, x128006, x128007, x128008, x128009, x128010 => lib_CheckCell.l0 k (x128006.length : Int) 0 x128000 x128001 x128002 x128003 x128004 x128005 x128006 x128007 x128008 x128009 x128010
def lib_CheckCell.l0 : Nat → Int → Int → ByteArray → Bool → Int → Int → Int → List Int → List Int → List Int → Int → Int → Int → Option (Int)
 | 0, _, _, _, _, _, _, _, _, _, _, _, _, _ => none
 | k + 1, x136, x137, x128000, x128001, x128002, x128003, x128004, x128005, x128006, x128007, x128008, x128009, x128010 => if x137 < x136 then (if 0 ≤ x137 then (if x137 < (x128006.length : Int) then (if x137 < (x128007.length : Int) then (if (rd x128006 x137) > (rd x128007 x137) then (some 5) else (lib_CheckCell.l0 k x136 (wrap64 (x137 + 1)) x128000 x128001 x128002 x128003 x128004 x128005 x128006 x128007 x128008 x128009 x128010)) else (none)) else (none)) else (none)) else (some 0)
def lib_CheckCell.j1 : Nat → Int → Int → Bool → ByteArray → Bool → Int → Int → Int → List Int → List Int → List Int → Int → Int → Int → Option (Int)
 | 0, _, _, _, _, _, _, _, _, _, _, _, _, _, _ => none
 | k + 1, x4, x5, x20, x128000, x128001, x128002, x128003, x128004, x128005, x128006, x128007, x128008, x128009, x128010 => if x20 = true then (some 2) else (if (x128005.length : Int) = x4 then (if (x128006.length : Int) = x5 then (lib_CheckCell.j2 k ((x128007.length : Int) != x5) x128000 x128001 x128002 x128003 x128004 x128005 x128006 x128007 x128008 x128009 x128010) else (lib_CheckCell.j2 k true x128000 x128001 x128002 x128003 x128004 x128005 x128006 x128007 x128008 x128009 x128010)) else (lib_CheckCell.j2 k true x128000 x128001 x128002 x128003 x128004 x128005 x128006 x128007 x128008 x128009 x128010))
def lib_CheckCell.j2 : Nat → Bool → ByteArray → Bool → Int → Int → Int → List Int → List Int → List Int → Int → Int → Int → Option (Int)
 | 0, _, _, _, _, _, _, _, _, _, _, _, _ => none
 | k + 1, x39, x128000, x128001, x128002, x128003, x128004, x128005, x128006, x128007, x128008, x128009, x128010 => if x39 = true then (some 4) else (if x128001 = true then (if x128003 = 0 then ((netlist_Mask.f x128002).bind fun t129 => (lib_CheckCell.j3 k ((Go.bits .andNot .u64 x128003 t129) != 0) x128000 x128001 x128002 x128003 x128004 x128005 x128006 x128007 x128008 x128009 x128010)) else (lib_CheckCell.j3 k true x128000 x128001 x128002 x128003 x128004 x128005 x128006 x128007 x128008 x128009 x128010)) else ((netlist_Mask.f x128002).bind fun t130 => (lib_CheckCell.j3 k ((Go.bits .andNot .u64 x128003 t130) != 0) x128000 x128001 x128002 x128003 x128004 x128005 x128006 x128007 x128008 x128009 x128010)))
def lib_CheckCell.j3 : Nat → Bool → ByteArray → Bool → Int → Int → Int → List Int → List Int → List Int → Int → Int → Int → Option (Int)
 | 0, _, _, _, _, _, _, _, _, _, _, _, _ => none
 | k + 1, x59, x128000, x128001, x128002, x128003, x128004, x128005, x128006, x128007, x128008, x128009, x128010 => if x59 = true then (some 4) else ((lib_in.f k 64 (([x128004] : List Int))).bind fun t134 => (if t134 = true then (if x128004 = 0 then (lib_CheckCell.j4 k true x128000 x128001 x128002 x128003 x128004 x128005 x128006 x128007 x128008 x128009 x128010) else ((lib_in.f k 1000 x128005).bind fun t135 => (if t135 = true then ((lib_in.f k 1000 (([x128008] : List Int))).bind fun t139 => (lib_CheckCell.j4 k (!t139) x128000 x128001 x128002 x128003 x128004 x128005 x128006 x128007 x128008 x128009 x128010)) else (lib_CheckCell.j4 k true x128000 x128001 x128002 x128003 x128004 x128005 x128006 x128007 x128008 x128009 x128010)))) else (lib_CheckCell.j4 k true x128000 x128001 x128002 x128003 x128004 x128005 x128006 x128007 x128008 x128009 x128010)))
def lib_CheckCell.j4 : Nat → Bool → ByteArray → Bool → Int → Int → Int → List Int → List Int → List Int → Int → Int → Int → Option (Int)
 | 0, _, _, _, _, _, _, _, _, _, _, _, _ => none
 | k + 1, x76, x128000, x128001, x128002, x128003, x128004, x128005, x128006, x128007, x128008, x128009, x128010 => if x76 = true then (some 2) else ((lib_in.f k 10000 x128006).bind fun t140 => (if t140 = true then ((lib_in.f k 10000 x128007).bind fun t141 => (if t141 = true then ((lib_in.f k 10000 (([x128009, x128010] : List Int))).bind fun t145 => (lib_CheckCell.j5 k (!t145) x128000 x128001 x128002 x128003 x128004 x128005 x128006 x128007 x128008 x128009 x128010)) else (lib_CheckCell.j5 k true x128000 x128001 x128002 x128003 x128004 x128005 x128006 x128007 x128008 x128009 x128010))) else (lib_CheckCell.j5 k true x128000 x128001 x128002 x128003 x128004 x128005 x128006 x128007 x128008 x128009 x128010)))
def lib_CheckCell.j5 : Nat → Bool → ByteArray → Bool → Int → Int → Int → List Int → List Int → List Int → Int → Int → Int → Option (Int)
 | 0, _, _, _, _, _, _, _, _, _, _, _, _ => none
 | k + 1, x100, x128000, x128001, x128002, x128003, x128004, x128005, x128006, x128007, x128008, x128009, x128010 => if x100 = true then (some 2) else (if x128001 = true then (lib_CheckCell.j6 k x128000 x128001 x128002 x128003 x128004 x128005 x128006 x128007 x128008 x128009 x128010) else (if x128009 = 0 then (if x128010 = 0 then (lib_CheckCell.j6 k x128000 x128001 x128002 x128003 x128004 x128005 x128006 x128007 x128008 x128009 x128010) else (some 4)) else (some 4)))
end
def lib_CheckCell.f (k : Nat) (a0_0 : ByteArray) (a0_1 : Bool) (a0_2 : Int) (a0_3 : Int) (a0_4 : Int) (l0_5 : List Int) (l0_6 : List Int) (l0_7 : List Int) (a0_8 : Int) (a0_9 : Int) (a0_10 : Int) : Option (Int) := (lib_Name.f a0_0).bind fun t128 => (if t128 = true then (if a0_1 = true then (lib_CheckCell.j0 k 1 (wrap64 (a0_2 + 1)) 1 a0_0 a0_1 a0_2 a0_3 a0_4 l0_5 l0_6 l0_7 a0_8 a0_9 a0_10) else (lib_CheckCell.j0 k 0 a0_2 a0_2 a0_0 a0_1 a0_2 a0_3 a0_4 l0_5 l0_6 l0_7 a0_8 a0_9 a0_10)) else (some 9))
theorem lib_CheckCell.mono_l : ∀ k, (∀ y0 y1 y2 y3 y4 y5 y6 y7 y8 y9 y10 y11 y12 y13, LeO (lib_CheckCell.j0 k y0 y1 y2 y3 y4 y5 y6 y7 y8 y9 y10 y11 y12 y13) (lib_CheckCell.j0 (k + 1) y0 y1 y2 y3 y4 y5 y6 y7 y8 y9 y10 y11 y12 y13)) ∧ (∀ y0 y1 y2 y3 y4 y5 y6 y7 y8 y9 y10, LeO (lib_CheckCell.j6 k y0 y1 y2 y3 y4 y5 y6 y7 y8 y9 y10) (lib_CheckCell.j6 (k + 1) y0 y1 y2 y3 y4 y5 y6 y7 y8 y9 y10)) ∧ (∀ y0 y1 y2 y3 y4 y5 y6 y7 y8 y9 y10 y11 y12, LeO (lib_CheckCell.l0 k y0 y1 y2 y3 y4 y5 y6 y7 y8 y9 y10 y11 y12) (lib_CheckCell.l0 (k + 1) y0 y1 y2 y3 y4 y5 y6 y7 y8 y9 y10 y11 y12)) ∧ (∀ y0 y1 y2 y3 y4 y5 y6 y7 y8 y9 y10 y11 y12 y13, LeO (lib_CheckCell.j1 k y0 y1 y2 y3 y4 y5 y6 y7 y8 y9 y10 y11 y12 y13) (lib_CheckCell.j1 (k + 1) y0 y1 y2 y3 y4 y5 y6 y7 y8 y9 y10 y11 y12 y13)) ∧ (∀ y0 y1 y2 y3 y4 y5 y6 y7 y8 y9 y10 y11, LeO (lib_CheckCell.j2 k y0 y1 y2 y3 y4 y5 y6 y7 y8 y9 y10 y11) (lib_CheckCell.j2 (k + 1) y0 y1 y2 y3 y4 y5 y6 y7 y8 y9 y10 y11)) ∧ (∀ y0 y1 y2 y3 y4 y5 y6 y7 y8 y9 y10 y11, LeO (lib_CheckCell.j3 k y0 y1 y2 y3 y4 y5 y6 y7 y8 y9 y10 y11) (lib_CheckCell.j3 (k + 1) y0 y1 y2 y3 y4 y5 y6 y7 y8 y9 y10 y11)) ∧ (∀ y0 y1 y2 y3 y4 y5 y6 y7 y8 y9 y10 y11, LeO (lib_CheckCell.j4 k y0 y1 y2 y3 y4 y5 y6 y7 y8 y9 y10 y11) (lib_CheckCell.j4 (k + 1) y0 y1 y2 y3 y4 y5 y6 y7 y8 y9 y10 y11)) ∧ (∀ y0 y1 y2 y3 y4 y5 y6 y7 y8 y9 y10 y11, LeO (lib_CheckCell.j5 k y0 y1 y2 y3 y4 y5 y6 y7 y8 y9 y10 y11) (lib_CheckCell.j5 (k + 1) y0 y1 y2 y3 y4 y5 y6 y7 y8 y9 y10 y11))
 | 0 => ⟨fun _ _ _ _ _ _ _ _ _ _ _ _ _ _ r h => by simp [lib_CheckCell.j0] at h, fun _ _ _ _ _ _ _ _ _ _ _ r h => by simp [lib_CheckCell.j6] at h, fun _ _ _ _ _ _ _ _ _ _ _ _ _ r h => by simp [lib_CheckCell.l0] at h, fun _ _ _ _ _ _ _ _ _ _ _ _ _ _ r h => by simp [lib_CheckCell.j1] at h, fun _ _ _ _ _ _ _ _ _ _ _ _ r h => by simp [lib_CheckCell.j2] at h, fun _ _ _ _ _ _ _ _ _ _ _ _ r h => by simp [lib_CheckCell.j3] at h, fun _ _ _ _ _ _ _ _ _ _ _ _ r h => by simp [lib_CheckCell.j4] at h, fun _ _ _ _ _ _ _ _ _ _ _ _ r h => by simp [lib_CheckCell.j5] at h⟩
 | k + 1 => by
  obtain ⟨ih0, ih1, ih2, ih3, ih4, ih5, ih6, ih7⟩ := lib_CheckCell.mono_l k
  refine ⟨?_, ?_, ?_, ?_, ?_, ?_, ?_, ?_⟩
  · intro y0 y1 y2 y3 y4 y5 y6 y7 y8 y9 y10 y11 y12 y13
    unfold lib_CheckCell.j0
    repeat' first
    | (with_reducible exact ih0 _ _ _ _ _ _ _ _ _ _ _ _ _ _)
    | (with_reducible exact ih1 _ _ _ _ _ _ _ _ _ _ _)
    | (with_reducible exact ih2 _ _ _ _ _ _ _ _ _ _ _ _ _)
    | (with_reducible exact ih3 _ _ _ _ _ _ _ _ _ _ _ _ _ _)
    | (with_reducible exact ih4 _ _ _ _ _ _ _ _ _ _ _ _)
    | (with_reducible exact ih5 _ _ _ _ _ _ _ _ _ _ _ _)
    | (with_reducible exact ih6 _ _ _ _ _ _ _ _ _ _ _ _)
    | (with_reducible exact ih7 _ _ _ _ _ _ _ _ _ _ _ _)
    | (with_reducible exact lib_in.mono _ _ _)
    | (with_reducible exact LeO.refl _)
    | (with_reducible exact LeO.none _)
    | (with_reducible refine LeO.ite ?_ ?_)
    | (with_reducible refine LeO.bind ?_ (fun _ => ?_))
    | exact ih0 _ _ _ _ _ _ _ _ _ _ _ _ _ _
    | exact ih1 _ _ _ _ _ _ _ _ _ _ _
    | exact ih2 _ _ _ _ _ _ _ _ _ _ _ _ _
    | exact ih3 _ _ _ _ _ _ _ _ _ _ _ _ _ _
    | exact ih4 _ _ _ _ _ _ _ _ _ _ _ _
    | exact ih5 _ _ _ _ _ _ _ _ _ _ _ _
    | exact ih6 _ _ _ _ _ _ _ _ _ _ _ _
    | exact ih7 _ _ _ _ _ _ _ _ _ _ _ _
    | exact lib_in.mono _ _ _
    | exact LeO.none _
    | refine LeO.ite ?_ ?_
    | refine LeO.bind ?_ (fun _ => ?_)
  · intro y0 y1 y2 y3 y4 y5 y6 y7 y8 y9 y10
    unfold lib_CheckCell.j6
    repeat' first
    | (with_reducible exact ih0 _ _ _ _ _ _ _ _ _ _ _ _ _ _)
    | (with_reducible exact ih1 _ _ _ _ _ _ _ _ _ _ _)
    | (with_reducible exact ih2 _ _ _ _ _ _ _ _ _ _ _ _ _)
    | (with_reducible exact ih3 _ _ _ _ _ _ _ _ _ _ _ _ _ _)
    | (with_reducible exact ih4 _ _ _ _ _ _ _ _ _ _ _ _)
    | (with_reducible exact ih5 _ _ _ _ _ _ _ _ _ _ _ _)
    | (with_reducible exact ih6 _ _ _ _ _ _ _ _ _ _ _ _)
    | (with_reducible exact ih7 _ _ _ _ _ _ _ _ _ _ _ _)
    | (with_reducible exact lib_in.mono _ _ _)
    | (with_reducible exact LeO.refl _)
    | (with_reducible exact LeO.none _)
    | (with_reducible refine LeO.ite ?_ ?_)
    | (with_reducible refine LeO.bind ?_ (fun _ => ?_))
    | exact ih0 _ _ _ _ _ _ _ _ _ _ _ _ _ _
    | exact ih1 _ _ _ _ _ _ _ _ _ _ _
    | exact ih2 _ _ _ _ _ _ _ _ _ _ _ _ _
    | exact ih3 _ _ _ _ _ _ _ _ _ _ _ _ _ _
    | exact ih4 _ _ _ _ _ _ _ _ _ _ _ _
    | exact ih5 _ _ _ _ _ _ _ _ _ _ _ _
    | exact ih6 _ _ _ _ _ _ _ _ _ _ _ _
    | exact ih7 _ _ _ _ _ _ _ _ _ _ _ _
    | exact lib_in.mono _ _ _
    | exact LeO.none _
    | refine LeO.ite ?_ ?_
    | refine LeO.bind ?_ (fun _ => ?_)
  · intro y0 y1 y2 y3 y4 y5 y6 y7 y8 y9 y10 y11 y12
    unfold lib_CheckCell.l0
    repeat' first
    | (with_reducible exact ih0 _ _ _ _ _ _ _ _ _ _ _ _ _ _)
    | (with_reducible exact ih1 _ _ _ _ _ _ _ _ _ _ _)
    | (with_reducible exact ih2 _ _ _ _ _ _ _ _ _ _ _ _ _)
    | (with_reducible exact ih3 _ _ _ _ _ _ _ _ _ _ _ _ _ _)
    | (with_reducible exact ih4 _ _ _ _ _ _ _ _ _ _ _ _)
    | (with_reducible exact ih5 _ _ _ _ _ _ _ _ _ _ _ _)
    | (with_reducible exact ih6 _ _ _ _ _ _ _ _ _ _ _ _)
    | (with_reducible exact ih7 _ _ _ _ _ _ _ _ _ _ _ _)
    | (with_reducible exact lib_in.mono _ _ _)
    | (with_reducible exact LeO.refl _)
    | (with_reducible exact LeO.none _)
    | (with_reducible refine LeO.ite ?_ ?_)
    | (with_reducible refine LeO.bind ?_ (fun _ => ?_))
    | exact ih0 _ _ _ _ _ _ _ _ _ _ _ _ _ _
    | exact ih1 _ _ _ _ _ _ _ _ _ _ _
    | exact ih2 _ _ _ _ _ _ _ _ _ _ _ _ _
    | exact ih3 _ _ _ _ _ _ _ _ _ _ _ _ _ _
    | exact ih4 _ _ _ _ _ _ _ _ _ _ _ _
    | exact ih5 _ _ _ _ _ _ _ _ _ _ _ _
    | exact ih6 _ _ _ _ _ _ _ _ _ _ _ _
    | exact ih7 _ _ _ _ _ _ _ _ _ _ _ _
    | exact lib_in.mono _ _ _
    | exact LeO.none _
    | refine LeO.ite ?_ ?_
    | refine LeO.bind ?_ (fun _ => ?_)
  · intro y0 y1 y2 y3 y4 y5 y6 y7 y8 y9 y10 y11 y12 y13
    unfold lib_CheckCell.j1
    repeat' first
    | (with_reducible exact ih0 _ _ _ _ _ _ _ _ _ _ _ _ _ _)
    | (with_reducible exact ih1 _ _ _ _ _ _ _ _ _ _ _)
    | (with_reducible exact ih2 _ _ _ _ _ _ _ _ _ _ _ _ _)
    | (with_reducible exact ih3 _ _ _ _ _ _ _ _ _ _ _ _ _ _)
    | (with_reducible exact ih4 _ _ _ _ _ _ _ _ _ _ _ _)
    | (with_reducible exact ih5 _ _ _ _ _ _ _ _ _ _ _ _)
    | (with_reducible exact ih6 _ _ _ _ _ _ _ _ _ _ _ _)
    | (with_reducible exact ih7 _ _ _ _ _ _ _ _ _ _ _ _)
    | (with_reducible exact lib_in.mono _ _ _)
    | (with_reducible exact LeO.refl _)
    | (with_reducible exact LeO.none _)
    | (with_reducible refine LeO.ite ?_ ?_)
    | (with_reducible refine LeO.bind ?_ (fun _ => ?_))
    | exact ih0 _ _ _ _ _ _ _ _ _ _ _ _ _ _
    | exact ih1 _ _ _ _ _ _ _ _ _ _ _
    | exact ih2 _ _ _ _ _ _ _ _ _ _ _ _ _
    | exact ih3 _ _ _ _ _ _ _ _ _ _ _ _ _ _
    | exact ih4 _ _ _ _ _ _ _ _ _ _ _ _
    | exact ih5 _ _ _ _ _ _ _ _ _ _ _ _
    | exact ih6 _ _ _ _ _ _ _ _ _ _ _ _
    | exact ih7 _ _ _ _ _ _ _ _ _ _ _ _
    | exact lib_in.mono _ _ _
    | exact LeO.none _
    | refine LeO.ite ?_ ?_
    | refine LeO.bind ?_ (fun _ => ?_)
  · intro y0 y1 y2 y3 y4 y5 y6 y7 y8 y9 y10 y11
    unfold lib_CheckCell.j2
    repeat' first
    | (with_reducible exact ih0 _ _ _ _ _ _ _ _ _ _ _ _ _ _)
    | (with_reducible exact ih1 _ _ _ _ _ _ _ _ _ _ _)
    | (with_reducible exact ih2 _ _ _ _ _ _ _ _ _ _ _ _ _)
    | (with_reducible exact ih3 _ _ _ _ _ _ _ _ _ _ _ _ _ _)
    | (with_reducible exact ih4 _ _ _ _ _ _ _ _ _ _ _ _)
    | (with_reducible exact ih5 _ _ _ _ _ _ _ _ _ _ _ _)
    | (with_reducible exact ih6 _ _ _ _ _ _ _ _ _ _ _ _)
    | (with_reducible exact ih7 _ _ _ _ _ _ _ _ _ _ _ _)
    | (with_reducible exact lib_in.mono _ _ _)
    | (with_reducible exact LeO.refl _)
    | (with_reducible exact LeO.none _)
    | (with_reducible refine LeO.ite ?_ ?_)
    | (with_reducible refine LeO.bind ?_ (fun _ => ?_))
    | exact ih0 _ _ _ _ _ _ _ _ _ _ _ _ _ _
    | exact ih1 _ _ _ _ _ _ _ _ _ _ _
    | exact ih2 _ _ _ _ _ _ _ _ _ _ _ _ _
    | exact ih3 _ _ _ _ _ _ _ _ _ _ _ _ _ _
    | exact ih4 _ _ _ _ _ _ _ _ _ _ _ _
    | exact ih5 _ _ _ _ _ _ _ _ _ _ _ _
    | exact ih6 _ _ _ _ _ _ _ _ _ _ _ _
    | exact ih7 _ _ _ _ _ _ _ _ _ _ _ _
    | exact lib_in.mono _ _ _
    | exact LeO.none _
    | refine LeO.ite ?_ ?_
    | refine LeO.bind ?_ (fun _ => ?_)
  · intro y0 y1 y2 y3 y4 y5 y6 y7 y8 y9 y10 y11
    unfold lib_CheckCell.j3
    repeat' first
    | (with_reducible exact ih0 _ _ _ _ _ _ _ _ _ _ _ _ _ _)
    | (with_reducible exact ih1 _ _ _ _ _ _ _ _ _ _ _)
    | (with_reducible exact ih2 _ _ _ _ _ _ _ _ _ _ _ _ _)
    | (with_reducible exact ih3 _ _ _ _ _ _ _ _ _ _ _ _ _ _)
    | (with_reducible exact ih4 _ _ _ _ _ _ _ _ _ _ _ _)
    | (with_reducible exact ih5 _ _ _ _ _ _ _ _ _ _ _ _)
    | (with_reducible exact ih6 _ _ _ _ _ _ _ _ _ _ _ _)
    | (with_reducible exact ih7 _ _ _ _ _ _ _ _ _ _ _ _)
    | (with_reducible exact lib_in.mono _ _ _)
    | (with_reducible exact LeO.refl _)
    | (with_reducible exact LeO.none _)
    | (with_reducible refine LeO.ite ?_ ?_)
    | (with_reducible refine LeO.bind ?_ (fun _ => ?_))
    | exact ih0 _ _ _ _ _ _ _ _ _ _ _ _ _ _
    | exact ih1 _ _ _ _ _ _ _ _ _ _ _
    | exact ih2 _ _ _ _ _ _ _ _ _ _ _ _ _
    | exact ih3 _ _ _ _ _ _ _ _ _ _ _ _ _ _
    | exact ih4 _ _ _ _ _ _ _ _ _ _ _ _
    | exact ih5 _ _ _ _ _ _ _ _ _ _ _ _
    | exact ih6 _ _ _ _ _ _ _ _ _ _ _ _
    | exact ih7 _ _ _ _ _ _ _ _ _ _ _ _
    | exact lib_in.mono _ _ _
    | exact LeO.none _
    | refine LeO.ite ?_ ?_
    | refine LeO.bind ?_ (fun _ => ?_)
  · intro y0 y1 y2 y3 y4 y5 y6 y7 y8 y9 y10 y11
    unfold lib_CheckCell.j4
    repeat' first
    | (with_reducible exact ih0 _ _ _ _ _ _ _ _ _ _ _ _ _ _)
    | (with_reducible exact ih1 _ _ _ _ _ _ _ _ _ _ _)
    | (with_reducible exact ih2 _ _ _ _ _ _ _ _ _ _ _ _ _)
    | (with_reducible exact ih3 _ _ _ _ _ _ _ _ _ _ _ _ _ _)
    | (with_reducible exact ih4 _ _ _ _ _ _ _ _ _ _ _ _)
    | (with_reducible exact ih5 _ _ _ _ _ _ _ _ _ _ _ _)
    | (with_reducible exact ih6 _ _ _ _ _ _ _ _ _ _ _ _)
    | (with_reducible exact ih7 _ _ _ _ _ _ _ _ _ _ _ _)
    | (with_reducible exact lib_in.mono _ _ _)
    | (with_reducible exact LeO.refl _)
    | (with_reducible exact LeO.none _)
    | (with_reducible refine LeO.ite ?_ ?_)
    | (with_reducible refine LeO.bind ?_ (fun _ => ?_))
    | exact ih0 _ _ _ _ _ _ _ _ _ _ _ _ _ _
    | exact ih1 _ _ _ _ _ _ _ _ _ _ _
    | exact ih2 _ _ _ _ _ _ _ _ _ _ _ _ _
    | exact ih3 _ _ _ _ _ _ _ _ _ _ _ _ _ _
    | exact ih4 _ _ _ _ _ _ _ _ _ _ _ _
    | exact ih5 _ _ _ _ _ _ _ _ _ _ _ _
    | exact ih6 _ _ _ _ _ _ _ _ _ _ _ _
    | exact ih7 _ _ _ _ _ _ _ _ _ _ _ _
    | exact lib_in.mono _ _ _
    | exact LeO.none _
    | refine LeO.ite ?_ ?_
    | refine LeO.bind ?_ (fun _ => ?_)
  · intro y0 y1 y2 y3 y4 y5 y6 y7 y8 y9 y10 y11
    unfold lib_CheckCell.j5
    repeat' first
    | (with_reducible exact ih0 _ _ _ _ _ _ _ _ _ _ _ _ _ _)
    | (with_reducible exact ih1 _ _ _ _ _ _ _ _ _ _ _)
    | (with_reducible exact ih2 _ _ _ _ _ _ _ _ _ _ _ _ _)
    | (with_reducible exact ih3 _ _ _ _ _ _ _ _ _ _ _ _ _ _)
    | (with_reducible exact ih4 _ _ _ _ _ _ _ _ _ _ _ _)
    | (with_reducible exact ih5 _ _ _ _ _ _ _ _ _ _ _ _)
    | (with_reducible exact ih6 _ _ _ _ _ _ _ _ _ _ _ _)
    | (with_reducible exact ih7 _ _ _ _ _ _ _ _ _ _ _ _)
    | (with_reducible exact lib_in.mono _ _ _)
    | (with_reducible exact LeO.refl _)
    | (with_reducible exact LeO.none _)
    | (with_reducible refine LeO.ite ?_ ?_)
    | (with_reducible refine LeO.bind ?_ (fun _ => ?_))
    | exact ih0 _ _ _ _ _ _ _ _ _ _ _ _ _ _
    | exact ih1 _ _ _ _ _ _ _ _ _ _ _
    | exact ih2 _ _ _ _ _ _ _ _ _ _ _ _ _
    | exact ih3 _ _ _ _ _ _ _ _ _ _ _ _ _ _
    | exact ih4 _ _ _ _ _ _ _ _ _ _ _ _
    | exact ih5 _ _ _ _ _ _ _ _ _ _ _ _
    | exact ih6 _ _ _ _ _ _ _ _ _ _ _ _
    | exact ih7 _ _ _ _ _ _ _ _ _ _ _ _
    | exact lib_in.mono _ _ _
    | exact LeO.none _
    | refine LeO.ite ?_ ?_
    | refine LeO.bind ?_ (fun _ => ?_)
theorem lib_CheckCell.mono : ∀ a0 a1 a2 a3 a4 a5 a6 a7 a8 a9 a10 k, LeO (lib_CheckCell.f k a0 a1 a2 a3 a4 a5 a6 a7 a8 a9 a10) (lib_CheckCell.f (k + 1) a0 a1 a2 a3 a4 a5 a6 a7 a8 a9 a10) := by
 intro a0 a1 a2 a3 a4 a5 a6 a7 a8 a9 a10 k
 obtain ⟨ih0, ih1, ih2, ih3, ih4, ih5, ih6, ih7⟩ := lib_CheckCell.mono_l k
 unfold lib_CheckCell.f
 repeat' first
  | (with_reducible exact ih0 _ _ _ _ _ _ _ _ _ _ _ _ _ _)
  | (with_reducible exact ih1 _ _ _ _ _ _ _ _ _ _ _)
  | (with_reducible exact ih2 _ _ _ _ _ _ _ _ _ _ _ _ _)
  | (with_reducible exact ih3 _ _ _ _ _ _ _ _ _ _ _ _ _ _)
  | (with_reducible exact ih4 _ _ _ _ _ _ _ _ _ _ _ _)
  | (with_reducible exact ih5 _ _ _ _ _ _ _ _ _ _ _ _)
  | (with_reducible exact ih6 _ _ _ _ _ _ _ _ _ _ _ _)
  | (with_reducible exact ih7 _ _ _ _ _ _ _ _ _ _ _ _)
  | (with_reducible exact lib_in.mono _ _ _)
  | (with_reducible exact LeO.refl _)
  | (with_reducible exact LeO.none _)
  | (with_reducible refine LeO.ite ?_ ?_)
  | (with_reducible refine LeO.bind ?_ (fun _ => ?_))
  | exact ih0 _ _ _ _ _ _ _ _ _ _ _ _ _ _
  | exact ih1 _ _ _ _ _ _ _ _ _ _ _
  | exact ih2 _ _ _ _ _ _ _ _ _ _ _ _ _
  | exact ih3 _ _ _ _ _ _ _ _ _ _ _ _ _ _
  | exact ih4 _ _ _ _ _ _ _ _ _ _ _ _
  | exact ih5 _ _ _ _ _ _ _ _ _ _ _ _
  | exact ih6 _ _ _ _ _ _ _ _ _ _ _ _
  | exact ih7 _ _ _ _ _ _ _ _ _ _ _ _
  | exact lib_in.mono _ _ _
  | exact LeO.none _
  | refine LeO.ite ?_ ?_
  | refine LeO.bind ?_ (fun _ => ?_)
set_option maxHeartbeats 8000000 in
set_option maxRecDepth 100000 in
theorem lib_CheckCell.calls (k : Nat) (a0_0 : ByteArray) (a0_1 : Bool) (a0_2 : Int) (a0_3 : Int) (a0_4 : Int) (A0_5 : Option Addr) (c0_5 : Nat) (l0_5 : List Int) (A0_6 : Option Addr) (c0_6 : Nat) (l0_6 : List Int) (A0_7 : Option Addr) (c0_7 : Nat) (l0_7 : List Int) (a0_8 : Int) (a0_9 : Int) (a0_10 : Int) (r : Int) (w : World) (hr0_5 : Kd.C (Kd.int .i64) w A0_5 l0_5.length l0_5) (hc0_5 : l0_5.length ≤ c0_5) (hr0_6 : Kd.C (Kd.int .i64) w A0_6 l0_6.length l0_6) (hc0_6 : l0_6.length ≤ c0_6) (hr0_7 : Kd.C (Kd.int .i64) w A0_7 l0_7.length l0_7) (hc0_7 : l0_7.length ≤ c0_7) (h : lib_CheckCell.f k a0_0 a0_1 a0_2 a0_3 a0_4 l0_5 l0_6 l0_7 a0_8 a0_9 a0_10 = some r) :
 Calls Try.prog 43 #[.agg #[.string a0_0, .bool a0_1, .int .i64 a0_2, .int .u64 a0_3, .int .i64 a0_4, .slice A0_5 l0_5.length c0_5, .slice A0_6 l0_6.length c0_6, .slice A0_7 l0_7.length c0_7, .int .i64 a0_8, .int .i64 a0_9, .int .i64 a0_10]] w fun e w' => e = .returned (.int .i64 r) ∧ Below w.heap.size w w' := by
 have hu32 := Try.underlying32
 have HR0_5 := Aside0.mk hr0_5
 have HC0_5 := Aside0.mk hc0_5
 clear hr0_5 hc0_5
 have HR0_6 := Aside0.mk hr0_6
 have HC0_6 := Aside0.mk hc0_6
 clear hr0_6 hc0_6
 have HR0_7 := Aside0.mk hr0_7
 have HC0_7 := Aside0.mk hc0_7
 clear hr0_7 hc0_7
 have HB := Aside0.mk (Below.refl w.heap.size w)
 have H : ((lib_Name.f a0_0).bind fun t128 => (if t128 = true then (if a0_1 = true then (lib_CheckCell.j0 k 1 (wrap64 (a0_2 + 1)) 1 a0_0 a0_1 a0_2 a0_3 a0_4 l0_5 l0_6 l0_7 a0_8 a0_9 a0_10) else (lib_CheckCell.j0 k 0 a0_2 a0_2 a0_0 a0_1 a0_2 a0_3 a0_4 l0_5 l0_6 l0_7 a0_8 a0_9 a0_10)) else (some 9))) = some r := h
 clear h
 replace H := Option.bind_eq_some_iff.mp H
 obtain ⟨t128, A20, H⟩ := H
 replace H : (if t128 = true then (if a0_1 = true then (lib_CheckCell.j0 k 1 (wrap64 (a0_2 + 1)) 1 a0_0 a0_1 a0_2 a0_3 a0_4 l0_5 l0_6 l0_7 a0_8 a0_9 a0_10) else (lib_CheckCell.j0 k 0 a0_2 a0_2 a0_0 a0_1 a0_2 a0_3 a0_4 l0_5 l0_6 l0_7 a0_8 a0_9 a0_10)) else (some 9)) = some r := H
 have A2 := Aside0.mk A20
 clear A20
 by_cases c3 : t128 = true
 rotate_left
 · replace c3 := Bool.eq_false_iff.mpr c3
   subst c3
   have H1 : (some 9) = some r := by rw [if_neg (show ¬ (false = true) by decide)] at H; exact H
   clear H
   have H := H1
   clear H1
   obtain rfl := Option.some.inj H
   go_enter Try.func43, Try.ntmps43
   go_wp2_with (first | ((with_reducible refine gate_dst (N := 1) rfl ?_); (try (refine gate_guard (by rfl) ?_; dsimp only)); refine box_event ?hg (N := 1) ?hd (cs := #[.string a0_0, .bool a0_1, .int .i64 a0_2, .int .u64 a0_3, .int .i64 a0_4, .slice A0_5 l0_5.length c0_5, .slice A0_6 l0_6.length c0_6, .slice A0_7 l0_7.length c0_7, .int .i64 a0_8, .int .i64 a0_9, .int .i64 a0_10]) (t := 32) ?hr ?_; (case hd => rfl); (case hg => rfl); (case hr => first | (go_simp; done) | (go_simp; rfl)); intro gb127 hg w95 hbox hb; have n0_ := Aside0.mk (below_step (by repeat (first | (with_reducible first | exact HB.out | apply below_alloc | apply pw_below_drewN | apply below_drew1) | exact HB.out)) hb); have n1_ := Aside0.mk (hbox); have n2_ := Aside0.mk ((by rw [hg]; exact (below_size (by repeat (first | (with_reducible first | exact HB.out | apply below_alloc | apply pw_below_drewN | apply below_drew1) | exact HB.out))) : w.heap.size ≤ gb127)); have n3_ := Aside0.mk ((by rw [hg]; exact (below_size (by repeat (first | (with_reducible first | exact HB.out | apply below_alloc | apply pw_below_drewN | apply below_drew1) | exact HB.out))) : w.heap.size ≤ gb127)); clear HB; have HB := n0_; have BK127 := n1_; have GW127 := n2_; have GE127 := n3_; clear n0_ n1_ n2_ n3_; clear hb hbox hg; have hcz96_0 : w95.cell? ⟨gb127, 0, none⟩ = some (.string a0_0) := (blk_cell BK127.out 0).trans rfl; have hcz96_1 : w95.cell? ⟨gb127, 1, none⟩ = some (.bool a0_1) := (blk_cell BK127.out 1).trans rfl; have hcz96_2 : w95.cell? ⟨gb127, 2, none⟩ = some (.int .i64 a0_2) := (blk_cell BK127.out 2).trans rfl; have hcz96_3 : w95.cell? ⟨gb127, 3, none⟩ = some (.int .u64 a0_3) := (blk_cell BK127.out 3).trans rfl; have hcz96_4 : w95.cell? ⟨gb127, 4, none⟩ = some (.int .i64 a0_4) := (blk_cell BK127.out 4).trans rfl; have hcz96_5 : w95.cell? ⟨gb127, 5, none⟩ = some (.slice A0_5 l0_5.length c0_5) := (blk_cell BK127.out 5).trans rfl; have hcz96_6 : w95.cell? ⟨gb127, 6, none⟩ = some (.slice A0_6 l0_6.length c0_6) := (blk_cell BK127.out 6).trans rfl; have hcz96_7 : w95.cell? ⟨gb127, 7, none⟩ = some (.slice A0_7 l0_7.length c0_7) := (blk_cell BK127.out 7).trans rfl; have hcz96_8 : w95.cell? ⟨gb127, 8, none⟩ = some (.int .i64 a0_8) := (blk_cell BK127.out 8).trans rfl; have hcz96_9 : w95.cell? ⟨gb127, 9, none⟩ = some (.int .i64 a0_9) := (blk_cell BK127.out 9).trans rfl; have hcz96_10 : w95.cell? ⟨gb127, 10, none⟩ = some (.int .i64 a0_10) := (blk_cell BK127.out 10).trans rfl; have hfz96_0 := blk_frozen BK127.out 0; have hfz96_1 := blk_frozen BK127.out 1; have hfz96_2 := blk_frozen BK127.out 2; have hfz96_3 := blk_frozen BK127.out 3; have hfz96_4 := blk_frozen BK127.out 4; have hfz96_5 := blk_frozen BK127.out 5; have hfz96_6 := blk_frozen BK127.out 6; have hfz96_7 := blk_frozen BK127.out 7; have hfz96_8 := blk_frozen BK127.out 8; have hfz96_9 := blk_frozen BK127.out 9; have hfz96_10 := blk_frozen BK127.out 10) | (go_at_call 51; (with_reducible refine (lib_Name.calls a0_0 false _ A2.out).mono ?_); rintro e w97 ⟨rfl, hb⟩; have n0_ := Aside0.mk (blk_below (g := gb127) (o := .cells #[.string a0_0, .bool a0_1, .int .i64 a0_2, .int .u64 a0_3, .int .i64 a0_4, .slice A0_5 l0_5.length c0_5, .slice A0_6 l0_6.length c0_6, .slice A0_7 l0_7.length c0_7, .int .i64 a0_8, .int .i64 a0_9, .int .i64 a0_10] 32 (0, 0)) (by (with_reducible repeat (first | refine blk_drewN ?_ _ | refine blk_drew ?_ | refine blk_alloc ?_ _)); exact BK127.out) hb); have n1_ := Aside0.mk (below_step (by repeat (first | (with_reducible first | exact HB.out | apply below_alloc | apply pw_below_drewN | apply below_drew1 | refine below_set ?_ GE127.out) | exact HB.out)) hb); clear BK127; clear HB; have BK127 := n0_; have HB := n1_; clear n0_ n1_; (try clear hb); (try clear hb2); (try clear hk); (try clear hi)))
   repeat (go_quiet (fail); try go_wp2_with fail)
   go_ret
   exact ⟨by first | rfl | (simp [errW_none, errW_some] <;> rfl) | (simp [*, errW_none, errW_some] <;> rfl), by repeat (first | (with_reducible first | exact HB.out | apply below_alloc | apply pw_below_drewN | apply below_drew1 | refine below_set ?_ GE127.out) | exact HB.out)⟩
 subst c3
 have H1 : (if a0_1 = true then (lib_CheckCell.j0 k 1 (wrap64 (a0_2 + 1)) 1 a0_0 a0_1 a0_2 a0_3 a0_4 l0_5 l0_6 l0_7 a0_8 a0_9 a0_10) else (lib_CheckCell.j0 k 0 a0_2 a0_2 a0_0 a0_1 a0_2 a0_3 a0_4 l0_5 l0_6 l0_7 a0_8 a0_9 a0_10)) = some r := by rw [if_pos rfl] at H; exact H
 clear H
 have H := H1
 clear H1
 have HC4 := Aside0.mk H
 clear H
 go_enter Try.func43, Try.ntmps43
 go_upto_if 16 with (first | ((with_reducible refine gate_dst (N := 1) rfl ?_); (try (refine gate_guard (by rfl) ?_; dsimp only)); refine box_event ?hg (N := 1) ?hd (cs := #[.string a0_0, .bool a0_1, .int .i64 a0_2, .int .u64 a0_3, .int .i64 a0_4, .slice A0_5 l0_5.length c0_5, .slice A0_6 l0_6.length c0_6, .slice A0_7 l0_7.length c0_7, .int .i64 a0_8, .int .i64 a0_9, .int .i64 a0_10]) (t := 32) ?hr ?_; (case hd => rfl); (case hg => rfl); (case hr => first | (go_simp; done) | (go_simp; rfl)); intro gb127 hg w5 hbox hb; have n0_ := Aside0.mk (below_step (by repeat (first | (with_reducible first | exact HB.out | apply below_alloc | apply pw_below_drewN | apply below_drew1) | exact HB.out)) hb); have n1_ := Aside0.mk (hbox); have n2_ := Aside0.mk ((by rw [hg]; exact (below_size (by repeat (first | (with_reducible first | exact HB.out | apply below_alloc | apply pw_below_drewN | apply below_drew1) | exact HB.out))) : w.heap.size ≤ gb127)); have n3_ := Aside0.mk ((by rw [hg]; exact (below_size (by repeat (first | (with_reducible first | exact HB.out | apply below_alloc | apply pw_below_drewN | apply below_drew1) | exact HB.out))) : w.heap.size ≤ gb127)); clear HB; have HB := n0_; have BK127 := n1_; have GW127 := n2_; have GE127 := n3_; clear n0_ n1_ n2_ n3_; clear hb hbox hg; have hcz6_0 : w5.cell? ⟨gb127, 0, none⟩ = some (.string a0_0) := (blk_cell BK127.out 0).trans rfl; have hcz6_1 : w5.cell? ⟨gb127, 1, none⟩ = some (.bool a0_1) := (blk_cell BK127.out 1).trans rfl; have hcz6_2 : w5.cell? ⟨gb127, 2, none⟩ = some (.int .i64 a0_2) := (blk_cell BK127.out 2).trans rfl; have hcz6_3 : w5.cell? ⟨gb127, 3, none⟩ = some (.int .u64 a0_3) := (blk_cell BK127.out 3).trans rfl; have hcz6_4 : w5.cell? ⟨gb127, 4, none⟩ = some (.int .i64 a0_4) := (blk_cell BK127.out 4).trans rfl; have hcz6_5 : w5.cell? ⟨gb127, 5, none⟩ = some (.slice A0_5 l0_5.length c0_5) := (blk_cell BK127.out 5).trans rfl; have hcz6_6 : w5.cell? ⟨gb127, 6, none⟩ = some (.slice A0_6 l0_6.length c0_6) := (blk_cell BK127.out 6).trans rfl; have hcz6_7 : w5.cell? ⟨gb127, 7, none⟩ = some (.slice A0_7 l0_7.length c0_7) := (blk_cell BK127.out 7).trans rfl; have hcz6_8 : w5.cell? ⟨gb127, 8, none⟩ = some (.int .i64 a0_8) := (blk_cell BK127.out 8).trans rfl; have hcz6_9 : w5.cell? ⟨gb127, 9, none⟩ = some (.int .i64 a0_9) := (blk_cell BK127.out 9).trans rfl; have hcz6_10 : w5.cell? ⟨gb127, 10, none⟩ = some (.int .i64 a0_10) := (blk_cell BK127.out 10).trans rfl; have hfz6_0 := blk_frozen BK127.out 0; have hfz6_1 := blk_frozen BK127.out 1; have hfz6_2 := blk_frozen BK127.out 2; have hfz6_3 := blk_frozen BK127.out 3; have hfz6_4 := blk_frozen BK127.out 4; have hfz6_5 := blk_frozen BK127.out 5; have hfz6_6 := blk_frozen BK127.out 6; have hfz6_7 := blk_frozen BK127.out 7; have hfz6_8 := blk_frozen BK127.out 8; have hfz6_9 := blk_frozen BK127.out 9; have hfz6_10 := blk_frozen BK127.out 10) | (go_at_call 51; (with_reducible refine (lib_Name.calls a0_0 true _ A2.out).mono ?_); rintro e w7 ⟨rfl, hb⟩; have n0_ := Aside0.mk (blk_below (g := gb127) (o := .cells #[.string a0_0, .bool a0_1, .int .i64 a0_2, .int .u64 a0_3, .int .i64 a0_4, .slice A0_5 l0_5.length c0_5, .slice A0_6 l0_6.length c0_6, .slice A0_7 l0_7.length c0_7, .int .i64 a0_8, .int .i64 a0_9, .int .i64 a0_10] 32 (0, 0)) (by (with_reducible repeat (first | refine blk_drewN ?_ _ | refine blk_drew ?_ | refine blk_alloc ?_ _)); exact BK127.out) hb); have n1_ := Aside0.mk (below_step (by repeat (first | (with_reducible first | exact HB.out | apply below_alloc | apply pw_below_drewN | apply below_drew1 | refine below_set ?_ GE127.out) | exact HB.out)) hb); clear BK127; clear HB; have BK127 := n0_; have HB := n1_; clear n0_ n1_; (try clear hb); (try clear hb2); (try clear hk); (try clear hi); have hcz8_0 : w7.cell? ⟨gb127, 0, none⟩ = some (.string a0_0) := (blk_cell BK127.out 0).trans rfl; have hcz8_1 : w7.cell? ⟨gb127, 1, none⟩ = some (.bool a0_1) := (blk_cell BK127.out 1).trans rfl; have hcz8_2 : w7.cell? ⟨gb127, 2, none⟩ = some (.int .i64 a0_2) := (blk_cell BK127.out 2).trans rfl; have hcz8_3 : w7.cell? ⟨gb127, 3, none⟩ = some (.int .u64 a0_3) := (blk_cell BK127.out 3).trans rfl; have hcz8_4 : w7.cell? ⟨gb127, 4, none⟩ = some (.int .i64 a0_4) := (blk_cell BK127.out 4).trans rfl; have hcz8_5 : w7.cell? ⟨gb127, 5, none⟩ = some (.slice A0_5 l0_5.length c0_5) := (blk_cell BK127.out 5).trans rfl; have hcz8_6 : w7.cell? ⟨gb127, 6, none⟩ = some (.slice A0_6 l0_6.length c0_6) := (blk_cell BK127.out 6).trans rfl; have hcz8_7 : w7.cell? ⟨gb127, 7, none⟩ = some (.slice A0_7 l0_7.length c0_7) := (blk_cell BK127.out 7).trans rfl; have hcz8_8 : w7.cell? ⟨gb127, 8, none⟩ = some (.int .i64 a0_8) := (blk_cell BK127.out 8).trans rfl; have hcz8_9 : w7.cell? ⟨gb127, 9, none⟩ = some (.int .i64 a0_9) := (blk_cell BK127.out 9).trans rfl; have hcz8_10 : w7.cell? ⟨gb127, 10, none⟩ = some (.int .i64 a0_10) := (blk_cell BK127.out 10).trans rfl; have hfz8_0 := blk_frozen BK127.out 0; have hfz8_1 := blk_frozen BK127.out 1; have hfz8_2 := blk_frozen BK127.out 2; have hfz8_3 := blk_frozen BK127.out 3; have hfz8_4 := blk_frozen BK127.out 4; have hfz8_5 := blk_frozen BK127.out 5; have hfz8_6 := blk_frozen BK127.out 6; have hfz8_7 := blk_frozen BK127.out 7; have hfz8_8 := blk_frozen BK127.out 8; have hfz8_9 := blk_frozen BK127.out 9; have hfz8_10 := blk_frozen BK127.out 10))
 repeat (go_quiet (fail); go_upto_if 16 with (fail))
 (try simp only [Act.put, List.setIfInBounds_toArray, List.set_cons_zero, List.set_cons_succ])
 go_cut [3, 4, 5] (fun v3 v4 v5 wc => ∃ (kq : Nat) (x3_3 : Int) (x4_3 : Int) (x5_3 : Int), v3 = .int .i64 x3_3 ∧ v4 = .int .i64 x4_3 ∧ v5 = .int .i64 x5_3 ∧ Aside0 (lib_CheckCell.j0 kq x3_3 x4_3 x5_3 a0_0 a0_1 a0_2 a0_3 a0_4 l0_5 l0_6 l0_7 a0_8 a0_9 a0_10 = some r) ∧ Aside0 (kq ≤ k) ∧ Aside0 (wc.heap[gb127]? = some (.cells #[.string a0_0, .bool a0_1, .int .i64 a0_2, .int .u64 a0_3, .int .i64 a0_4, (.slice A0_5 l0_5.length c0_5), (.slice A0_6 l0_6.length c0_6), (.slice A0_7 l0_7.length c0_7), .int .i64 a0_8, .int .i64 a0_9, .int .i64 a0_10] 32 (0, 0))) ∧ Aside0 (Below w.heap.size w wc))
 case first =>
  have H := HC4.out
  clear HC4
  by_cases c9 : a0_1 = true
  rotate_left
  · replace c9 := Bool.eq_false_iff.mpr c9
    subst c9
    have H1 : (lib_CheckCell.j0 k 0 a0_2 a0_2 a0_0 false a0_2 a0_3 a0_4 l0_5 l0_6 l0_7 a0_8 a0_9 a0_10) = some r := by rw [if_neg (show ¬ (false = true) by decide)] at H; exact H
    clear H
    have H := H1
    clear H1
    have H' := Aside0.mk H
    clear H
    go_wp2
    repeat (go_quiet (fail); try go_wp2)
    go_meet
    case rel => exact ⟨_, (0), (a0_2), (a0_2), (by first | rfl | (simp; done) | (simp [*]; done)), (by first | rfl | (simp; done) | (simp [*]; done)), (by first | rfl | (simp; done) | (simp [*]; done)), H', ⟨by first | omega | exact Nat.le_refl _⟩, ⟨by (with_reducible repeat (first | refine blk_drewN ?_ _ | refine blk_drew ?_ | refine blk_alloc ?_ _)); exact BK127.out⟩, ⟨by repeat (first | (with_reducible first | exact HB.out | apply below_alloc | apply pw_below_drewN | apply below_drew1 | refine below_set ?_ GE127.out) | exact HB.out)⟩⟩
  subst c9
  have H1 : (lib_CheckCell.j0 k 1 (wrap64 (a0_2 + 1)) 1 a0_0 true a0_2 a0_3 a0_4 l0_5 l0_6 l0_7 a0_8 a0_9 a0_10) = some r := by rw [if_pos rfl] at H; exact H
  clear H
  have H := H1
  clear H1
  have H' := Aside0.mk H
  clear H
  have hcz10_0 : w7.cell? ⟨gb127, 0, none⟩ = some (.string a0_0) := (blk_cell BK127.out 0).trans rfl
  have hcz10_1 : w7.cell? ⟨gb127, 1, none⟩ = some (.bool true) := (blk_cell BK127.out 1).trans rfl
  have hcz10_2 : w7.cell? ⟨gb127, 2, none⟩ = some (.int .i64 a0_2) := (blk_cell BK127.out 2).trans rfl
  have hcz10_3 : w7.cell? ⟨gb127, 3, none⟩ = some (.int .u64 a0_3) := (blk_cell BK127.out 3).trans rfl
  have hcz10_4 : w7.cell? ⟨gb127, 4, none⟩ = some (.int .i64 a0_4) := (blk_cell BK127.out 4).trans rfl
  have hcz10_5 : w7.cell? ⟨gb127, 5, none⟩ = some (.slice A0_5 l0_5.length c0_5) := (blk_cell BK127.out 5).trans rfl
  have hcz10_6 : w7.cell? ⟨gb127, 6, none⟩ = some (.slice A0_6 l0_6.length c0_6) := (blk_cell BK127.out 6).trans rfl
  have hcz10_7 : w7.cell? ⟨gb127, 7, none⟩ = some (.slice A0_7 l0_7.length c0_7) := (blk_cell BK127.out 7).trans rfl
  have hcz10_8 : w7.cell? ⟨gb127, 8, none⟩ = some (.int .i64 a0_8) := (blk_cell BK127.out 8).trans rfl
  have hcz10_9 : w7.cell? ⟨gb127, 9, none⟩ = some (.int .i64 a0_9) := (blk_cell BK127.out 9).trans rfl
  have hcz10_10 : w7.cell? ⟨gb127, 10, none⟩ = some (.int .i64 a0_10) := (blk_cell BK127.out 10).trans rfl
  have hfz10_0 := blk_frozen BK127.out 0
  have hfz10_1 := blk_frozen BK127.out 1
  have hfz10_2 := blk_frozen BK127.out 2
  have hfz10_3 := blk_frozen BK127.out 3
  have hfz10_4 := blk_frozen BK127.out 4
  have hfz10_5 := blk_frozen BK127.out 5
  have hfz10_6 := blk_frozen BK127.out 6
  have hfz10_7 := blk_frozen BK127.out 7
  have hfz10_8 := blk_frozen BK127.out 8
  have hfz10_9 := blk_frozen BK127.out 9
  have hfz10_10 := blk_frozen BK127.out 10
  go_wp2
  repeat (go_quiet (fail); try go_wp2)
  go_meet
  case rel => exact ⟨_, (1), (wrap64 (a0_2 + 1)), (1), (by first | rfl | (simp; done) | (simp [*]; done)), (by first | rfl | (simp; done) | (simp [*]; done)), (by first | rfl | (simp; done) | (simp [*]; done)), H', ⟨by first | omega | exact Nat.le_refl _⟩, ⟨by (with_reducible repeat (first | refine blk_drewN ?_ _ | refine blk_drew ?_ | refine blk_alloc ?_ _)); exact BK127.out⟩, ⟨by repeat (first | (with_reducible first | exact HB.out | apply below_alloc | apply pw_below_drewN | apply below_drew1 | refine below_set ?_ GE127.out) | exact HB.out)⟩⟩
 clear HC4
 clear hcz6_0 hcz6_1 hcz6_10 hcz6_2 hcz6_3 hcz6_4 hcz6_5 hcz6_6 hcz6_7 hcz6_8 hcz6_9 hcz8_0 hcz8_1 hcz8_10 hcz8_2 hcz8_3 hcz8_4 hcz8_5 hcz8_6 hcz8_7 hcz8_8 hcz8_9 hfz6_0 hfz6_1 hfz6_10 hfz6_2 hfz6_3 hfz6_4 hfz6_5 hfz6_6 hfz6_7 hfz6_8 hfz6_9 hfz8_0 hfz8_1 hfz8_10 hfz8_2 hfz8_3 hfz8_4 hfz8_5 hfz8_6 hfz8_7 hfz8_8 hfz8_9
 obtain ⟨kq, x3_3, x4_3, x5_3, rfl, rfl, rfl, HA, HJ3, BK127, HB⟩ := hcut
 cases kq with
 | zero => exact absurd HA.out (by simp [lib_CheckCell.j0])
 | succ kj3 =>
  have H := HA.out
  clear HA
  simp only [lib_CheckCell.j0] at H
  have HC11 := Aside0.mk H
  clear H
  go_upto_block 0 with (fail)
  repeat (go_quiet (fail); go_upto_block 0 with (fail))
  go_cut [] (fun wc => ∃ (kq : Nat), Aside0 (lib_CheckCell.j6 kq a0_0 a0_1 a0_2 a0_3 a0_4 l0_5 l0_6 l0_7 a0_8 a0_9 a0_10 = some r) ∧ Aside0 (kq ≤ kj3) ∧ Aside0 (wc.heap[gb127]? = some (.cells #[.string a0_0, .bool a0_1, .int .i64 a0_2, .int .u64 a0_3, .int .i64 a0_4, (.slice A0_5 l0_5.length c0_5), (.slice A0_6 l0_6.length c0_6), (.slice A0_7 l0_7.length c0_7), .int .i64 a0_8, .int .i64 a0_9, .int .i64 a0_10] 32 (0, 0))) ∧ Aside0 (Below w.heap.size w wc))
  case first =>
   have H := HC11.out
   clear HC11
   have HC12 := Aside0.mk H
   clear H
   go_upto_region 6 with (fail)
   repeat (go_quiet (fail); go_upto_region 6 with (fail))
   go_cut [20] (fun v20 wc => ∃ (kq : Nat) (x20_11 : Bool), v20 = .bool x20_11 ∧ Aside0 (lib_CheckCell.j1 kq x4_3 x5_3 x20_11 a0_0 a0_1 a0_2 a0_3 a0_4 l0_5 l0_6 l0_7 a0_8 a0_9 a0_10 = some r) ∧ Aside0 (kq ≤ kj3) ∧ Aside0 (wc.heap[gb127]? = some (.cells #[.string a0_0, .bool a0_1, .int .i64 a0_2, .int .u64 a0_3, .int .i64 a0_4, (.slice A0_5 l0_5.length c0_5), (.slice A0_6 l0_6.length c0_6), (.slice A0_7 l0_7.length c0_7), .int .i64 a0_8, .int .i64 a0_9, .int .i64 a0_10] 32 (0, 0))) ∧ Aside0 (Below w.heap.size w wc))
   case first =>
    have H := HC12.out
    clear HC12
    by_cases c13 : a0_2 < x3_3
    · rw [if_pos c13] at H
      have c13b0 : decide (a0_2 < x3_3) = true := decide_eq_true c13
      clear c13
      (first | rw [c13b0] | (simp only [i64_w, i32_w]; rw [c13b0]) | skip)
      have H' := Aside0.mk H
      clear H
      have hcz14_0 : wc.cell? ⟨gb127, 0, none⟩ = some (.string a0_0) := (blk_cell BK127.out 0).trans rfl
      have hcz14_1 : wc.cell? ⟨gb127, 1, none⟩ = some (.bool a0_1) := (blk_cell BK127.out 1).trans rfl
      have hcz14_2 : wc.cell? ⟨gb127, 2, none⟩ = some (.int .i64 a0_2) := (blk_cell BK127.out 2).trans rfl
      have hcz14_3 : wc.cell? ⟨gb127, 3, none⟩ = some (.int .u64 a0_3) := (blk_cell BK127.out 3).trans rfl
      have hcz14_4 : wc.cell? ⟨gb127, 4, none⟩ = some (.int .i64 a0_4) := (blk_cell BK127.out 4).trans rfl
      have hcz14_5 : wc.cell? ⟨gb127, 5, none⟩ = some (.slice A0_5 l0_5.length c0_5) := (blk_cell BK127.out 5).trans rfl
      have hcz14_6 : wc.cell? ⟨gb127, 6, none⟩ = some (.slice A0_6 l0_6.length c0_6) := (blk_cell BK127.out 6).trans rfl
      have hcz14_7 : wc.cell? ⟨gb127, 7, none⟩ = some (.slice A0_7 l0_7.length c0_7) := (blk_cell BK127.out 7).trans rfl
      have hcz14_8 : wc.cell? ⟨gb127, 8, none⟩ = some (.int .i64 a0_8) := (blk_cell BK127.out 8).trans rfl
      have hcz14_9 : wc.cell? ⟨gb127, 9, none⟩ = some (.int .i64 a0_9) := (blk_cell BK127.out 9).trans rfl
      have hcz14_10 : wc.cell? ⟨gb127, 10, none⟩ = some (.int .i64 a0_10) := (blk_cell BK127.out 10).trans rfl
      have hfz14_0 := blk_frozen BK127.out 0
      have hfz14_1 := blk_frozen BK127.out 1
      have hfz14_2 := blk_frozen BK127.out 2
      have hfz14_3 := blk_frozen BK127.out 3
      have hfz14_4 := blk_frozen BK127.out 4
      have hfz14_5 := blk_frozen BK127.out 5
      have hfz14_6 := blk_frozen BK127.out 6
      have hfz14_7 := blk_frozen BK127.out 7
      have hfz14_8 := blk_frozen BK127.out 8
      have hfz14_9 := blk_frozen BK127.out 9
      have hfz14_10 := blk_frozen BK127.out 10
      go_wp2
      repeat (go_quiet (fail); try go_wp2)
      go_meet
      case rel => exact ⟨_, (true), (by first | rfl | (simp; done) | (simp [*]; done)), H', ⟨by have := HJ3.out; first | omega | exact Nat.le_refl _⟩, ⟨by (with_reducible repeat (first | refine blk_drewN ?_ _ | refine blk_drew ?_ | refine blk_alloc ?_ _)); exact BK127.out⟩, ⟨by repeat (first | (with_reducible first | exact HB.out | apply below_alloc | apply pw_below_drewN | apply below_drew1 | refine below_set ?_ GE127.out) | exact HB.out)⟩⟩
    rw [if_neg c13] at H
    have c13b0 : decide (a0_2 < x3_3) = false := decide_eq_false c13
    clear c13
    (first | rw [c13b0] | (simp only [i64_w, i32_w]; rw [c13b0]) | skip)
    by_cases c15 : a0_2 > 6
    · rw [if_pos c15] at H
      have c15b0 : decide (6 < a0_2) = true := decide_eq_true c15
      clear c15
      have H' := Aside0.mk H
      clear H
      have hcz16_0 : wc.cell? ⟨gb127, 0, none⟩ = some (.string a0_0) := (blk_cell BK127.out 0).trans rfl
      have hcz16_1 : wc.cell? ⟨gb127, 1, none⟩ = some (.bool a0_1) := (blk_cell BK127.out 1).trans rfl
      have hcz16_2 : wc.cell? ⟨gb127, 2, none⟩ = some (.int .i64 a0_2) := (blk_cell BK127.out 2).trans rfl
      have hcz16_3 : wc.cell? ⟨gb127, 3, none⟩ = some (.int .u64 a0_3) := (blk_cell BK127.out 3).trans rfl
      have hcz16_4 : wc.cell? ⟨gb127, 4, none⟩ = some (.int .i64 a0_4) := (blk_cell BK127.out 4).trans rfl
      have hcz16_5 : wc.cell? ⟨gb127, 5, none⟩ = some (.slice A0_5 l0_5.length c0_5) := (blk_cell BK127.out 5).trans rfl
      have hcz16_6 : wc.cell? ⟨gb127, 6, none⟩ = some (.slice A0_6 l0_6.length c0_6) := (blk_cell BK127.out 6).trans rfl
      have hcz16_7 : wc.cell? ⟨gb127, 7, none⟩ = some (.slice A0_7 l0_7.length c0_7) := (blk_cell BK127.out 7).trans rfl
      have hcz16_8 : wc.cell? ⟨gb127, 8, none⟩ = some (.int .i64 a0_8) := (blk_cell BK127.out 8).trans rfl
      have hcz16_9 : wc.cell? ⟨gb127, 9, none⟩ = some (.int .i64 a0_9) := (blk_cell BK127.out 9).trans rfl
      have hcz16_10 : wc.cell? ⟨gb127, 10, none⟩ = some (.int .i64 a0_10) := (blk_cell BK127.out 10).trans rfl
      have hfz16_0 := blk_frozen BK127.out 0
      have hfz16_1 := blk_frozen BK127.out 1
      have hfz16_2 := blk_frozen BK127.out 2
      have hfz16_3 := blk_frozen BK127.out 3
      have hfz16_4 := blk_frozen BK127.out 4
      have hfz16_5 := blk_frozen BK127.out 5
      have hfz16_6 := blk_frozen BK127.out 6
      have hfz16_7 := blk_frozen BK127.out 7
      have hfz16_8 := blk_frozen BK127.out 8
      have hfz16_9 := blk_frozen BK127.out 9
      have hfz16_10 := blk_frozen BK127.out 10
      go_wp2
      repeat (go_quiet (fail); try go_wp2)
      go_meet
      case rel => exact ⟨_, (true), (by first | rfl | (simp; done) | (simp [*]; done)), H', ⟨by have := HJ3.out; first | omega | exact Nat.le_refl _⟩, ⟨by (with_reducible repeat (first | refine blk_drewN ?_ _ | refine blk_drew ?_ | refine blk_alloc ?_ _)); exact BK127.out⟩, ⟨by repeat (first | (with_reducible first | exact HB.out | apply below_alloc | apply pw_below_drewN | apply below_drew1 | refine below_set ?_ GE127.out) | exact HB.out)⟩⟩
    rw [if_neg c15] at H
    have c15b0 : decide (6 < a0_2) = false := decide_eq_false c15
    clear c15
    by_cases c17 : a0_1 = true
    · subst c17
      have H1 : (lib_CheckCell.j1 kj3 x4_3 x5_3 (decide (a0_2 > 2)) a0_0 true a0_2 a0_3 a0_4 l0_5 l0_6 l0_7 a0_8 a0_9 a0_10) = some r := by rw [if_pos rfl] at H; exact H
      clear H
      have H := H1
      clear H1
      have H' := Aside0.mk H
      clear H
      have hcz18_0 : wc.cell? ⟨gb127, 0, none⟩ = some (.string a0_0) := (blk_cell BK127.out 0).trans rfl
      have hcz18_1 : wc.cell? ⟨gb127, 1, none⟩ = some (.bool true) := (blk_cell BK127.out 1).trans rfl
      have hcz18_2 : wc.cell? ⟨gb127, 2, none⟩ = some (.int .i64 a0_2) := (blk_cell BK127.out 2).trans rfl
      have hcz18_3 : wc.cell? ⟨gb127, 3, none⟩ = some (.int .u64 a0_3) := (blk_cell BK127.out 3).trans rfl
      have hcz18_4 : wc.cell? ⟨gb127, 4, none⟩ = some (.int .i64 a0_4) := (blk_cell BK127.out 4).trans rfl
      have hcz18_5 : wc.cell? ⟨gb127, 5, none⟩ = some (.slice A0_5 l0_5.length c0_5) := (blk_cell BK127.out 5).trans rfl
      have hcz18_6 : wc.cell? ⟨gb127, 6, none⟩ = some (.slice A0_6 l0_6.length c0_6) := (blk_cell BK127.out 6).trans rfl
      have hcz18_7 : wc.cell? ⟨gb127, 7, none⟩ = some (.slice A0_7 l0_7.length c0_7) := (blk_cell BK127.out 7).trans rfl
      have hcz18_8 : wc.cell? ⟨gb127, 8, none⟩ = some (.int .i64 a0_8) := (blk_cell BK127.out 8).trans rfl
      have hcz18_9 : wc.cell? ⟨gb127, 9, none⟩ = some (.int .i64 a0_9) := (blk_cell BK127.out 9).trans rfl
      have hcz18_10 : wc.cell? ⟨gb127, 10, none⟩ = some (.int .i64 a0_10) := (blk_cell BK127.out 10).trans rfl
      have hfz18_0 := blk_frozen BK127.out 0
      have hfz18_1 := blk_frozen BK127.out 1
      have hfz18_2 := blk_frozen BK127.out 2
      have hfz18_3 := blk_frozen BK127.out 3
      have hfz18_4 := blk_frozen BK127.out 4
      have hfz18_5 := blk_frozen BK127.out 5
      have hfz18_6 := blk_frozen BK127.out 6
      have hfz18_7 := blk_frozen BK127.out 7
      have hfz18_8 := blk_frozen BK127.out 8
      have hfz18_9 := blk_frozen BK127.out 9
      have hfz18_10 := blk_frozen BK127.out 10
      go_wp2
      repeat (go_quiet (fail); try go_wp2)
      go_meet
      case rel => exact ⟨_, (decide (a0_2 > 2)), (by first | rfl | (simp; done) | (simp [*]; done)), H', ⟨by have := HJ3.out; first | omega | exact Nat.le_refl _⟩, ⟨by (with_reducible repeat (first | refine blk_drewN ?_ _ | refine blk_drew ?_ | refine blk_alloc ?_ _)); exact BK127.out⟩, ⟨by repeat (first | (with_reducible first | exact HB.out | apply below_alloc | apply pw_below_drewN | apply below_drew1 | refine below_set ?_ GE127.out) | exact HB.out)⟩⟩
    replace c17 := Bool.eq_false_iff.mpr c17
    subst c17
    have H1 : (lib_CheckCell.j1 kj3 x4_3 x5_3 false a0_0 false a0_2 a0_3 a0_4 l0_5 l0_6 l0_7 a0_8 a0_9 a0_10) = some r := by rw [if_neg (show ¬ (false = true) by decide)] at H; exact H
    clear H
    have H := H1
    clear H1
    have H' := Aside0.mk H
    clear H
    have hcz19_0 : wc.cell? ⟨gb127, 0, none⟩ = some (.string a0_0) := (blk_cell BK127.out 0).trans rfl
    have hcz19_1 : wc.cell? ⟨gb127, 1, none⟩ = some (.bool false) := (blk_cell BK127.out 1).trans rfl
    have hcz19_2 : wc.cell? ⟨gb127, 2, none⟩ = some (.int .i64 a0_2) := (blk_cell BK127.out 2).trans rfl
    have hcz19_3 : wc.cell? ⟨gb127, 3, none⟩ = some (.int .u64 a0_3) := (blk_cell BK127.out 3).trans rfl
    have hcz19_4 : wc.cell? ⟨gb127, 4, none⟩ = some (.int .i64 a0_4) := (blk_cell BK127.out 4).trans rfl
    have hcz19_5 : wc.cell? ⟨gb127, 5, none⟩ = some (.slice A0_5 l0_5.length c0_5) := (blk_cell BK127.out 5).trans rfl
    have hcz19_6 : wc.cell? ⟨gb127, 6, none⟩ = some (.slice A0_6 l0_6.length c0_6) := (blk_cell BK127.out 6).trans rfl
    have hcz19_7 : wc.cell? ⟨gb127, 7, none⟩ = some (.slice A0_7 l0_7.length c0_7) := (blk_cell BK127.out 7).trans rfl
    have hcz19_8 : wc.cell? ⟨gb127, 8, none⟩ = some (.int .i64 a0_8) := (blk_cell BK127.out 8).trans rfl
    have hcz19_9 : wc.cell? ⟨gb127, 9, none⟩ = some (.int .i64 a0_9) := (blk_cell BK127.out 9).trans rfl
    have hcz19_10 : wc.cell? ⟨gb127, 10, none⟩ = some (.int .i64 a0_10) := (blk_cell BK127.out 10).trans rfl
    have hfz19_0 := blk_frozen BK127.out 0
    have hfz19_1 := blk_frozen BK127.out 1
    have hfz19_2 := blk_frozen BK127.out 2
    have hfz19_3 := blk_frozen BK127.out 3
    have hfz19_4 := blk_frozen BK127.out 4
    have hfz19_5 := blk_frozen BK127.out 5
    have hfz19_6 := blk_frozen BK127.out 6
    have hfz19_7 := blk_frozen BK127.out 7
    have hfz19_8 := blk_frozen BK127.out 8
    have hfz19_9 := blk_frozen BK127.out 9
    have hfz19_10 := blk_frozen BK127.out 10
    go_wp2
    repeat (go_quiet (fail); try go_wp2)
    go_meet
    case rel => exact ⟨_, (false), (by first | rfl | (simp; done) | (simp [*]; done)), H', ⟨by have := HJ3.out; first | omega | exact Nat.le_refl _⟩, ⟨by (with_reducible repeat (first | refine blk_drewN ?_ _ | refine blk_drew ?_ | refine blk_alloc ?_ _)); exact BK127.out⟩, ⟨by repeat (first | (with_reducible first | exact HB.out | apply below_alloc | apply pw_below_drewN | apply below_drew1 | refine below_set ?_ GE127.out) | exact HB.out)⟩⟩
   clear HC12
   obtain ⟨kq, x20_11, rfl, HA, HJ11, BK127, HB⟩ := hcut
   cases kq with
   | zero => exact absurd HA.out (by simp [lib_CheckCell.j1])
   | succ kj11 =>
    have H := HA.out
    clear HA
    simp only [lib_CheckCell.j1] at H
    by_cases c20 : x20_11 = true
    · subst c20
      have H1 : (some 2) = some r := by rw [if_pos rfl] at H; exact H
      clear H
      have H := H1
      clear H1
      obtain rfl := Option.some.inj H
      go_wp2
      repeat (go_quiet (fail); try go_wp2)
      go_ret
      exact ⟨by first | rfl | (simp [errW_none, errW_some] <;> rfl) | (simp [*, errW_none, errW_some] <;> rfl), by repeat (first | (with_reducible first | exact HB.out | apply below_alloc | apply pw_below_drewN | apply below_drew1 | refine below_set ?_ GE127.out) | exact HB.out)⟩
    replace c20 := Bool.eq_false_iff.mpr c20
    subst c20
    have H1 : (if (l0_5.length : Int) = x4_3 then (if (l0_6.length : Int) = x5_3 then (lib_CheckCell.j2 kj11 ((l0_7.length : Int) != x5_3) a0_0 a0_1 a0_2 a0_3 a0_4 l0_5 l0_6 l0_7 a0_8 a0_9 a0_10) else (lib_CheckCell.j2 kj11 true a0_0 a0_1 a0_2 a0_3 a0_4 l0_5 l0_6 l0_7 a0_8 a0_9 a0_10)) else (lib_CheckCell.j2 kj11 true a0_0 a0_1 a0_2 a0_3 a0_4 l0_5 l0_6 l0_7 a0_8 a0_9 a0_10)) = some r := by rw [if_neg (show ¬ (false = true) by decide)] at H; exact H
    clear H
    have H := H1
    clear H1
    have HC21 := Aside0.mk H
    clear H
    go_upto_region 8 with (fail)
    repeat (go_quiet (fail); go_upto_region 8 with (fail))
    go_cut [39] (fun v39 wc => ∃ (kq : Nat) (x39_20 : Bool), v39 = .bool x39_20 ∧ Aside0 (lib_CheckCell.j2 kq x39_20 a0_0 a0_1 a0_2 a0_3 a0_4 l0_5 l0_6 l0_7 a0_8 a0_9 a0_10 = some r) ∧ Aside0 (kq ≤ kj11) ∧ Aside0 (wc.heap[gb127]? = some (.cells #[.string a0_0, .bool a0_1, .int .i64 a0_2, .int .u64 a0_3, .int .i64 a0_4, (.slice A0_5 l0_5.length c0_5), (.slice A0_6 l0_6.length c0_6), (.slice A0_7 l0_7.length c0_7), .int .i64 a0_8, .int .i64 a0_9, .int .i64 a0_10] 32 (0, 0))) ∧ Aside0 (Below w.heap.size w wc))
    case first =>
     have H := HC21.out
     clear HC21
     by_cases c22 : (l0_5.length : Int) = x4_3
     rotate_left
     · rw [if_neg c22] at H
       have c22b0 : ((l0_5.length : Int) == x4_3) = false := beq_eq_false_iff_ne.mpr c22
       have c22b1 : ((l0_5.length : Int) != x4_3) = true := bne_iff_ne.mpr c22
       (first | rw [c22b0] | (simp only [i64_w, i32_w]; rw [c22b0]) | skip)
       have H' := Aside0.mk H
       clear H
       have hcz26_0 : wc.cell? ⟨gb127, 0, none⟩ = some (.string a0_0) := (blk_cell BK127.out 0).trans rfl
       have hcz26_1 : wc.cell? ⟨gb127, 1, none⟩ = some (.bool a0_1) := (blk_cell BK127.out 1).trans rfl
       have hcz26_2 : wc.cell? ⟨gb127, 2, none⟩ = some (.int .i64 a0_2) := (blk_cell BK127.out 2).trans rfl
       have hcz26_3 : wc.cell? ⟨gb127, 3, none⟩ = some (.int .u64 a0_3) := (blk_cell BK127.out 3).trans rfl
       have hcz26_4 : wc.cell? ⟨gb127, 4, none⟩ = some (.int .i64 a0_4) := (blk_cell BK127.out 4).trans rfl
       have hcz26_5 : wc.cell? ⟨gb127, 5, none⟩ = some (.slice A0_5 l0_5.length c0_5) := (blk_cell BK127.out 5).trans rfl
       have hcz26_6 : wc.cell? ⟨gb127, 6, none⟩ = some (.slice A0_6 l0_6.length c0_6) := (blk_cell BK127.out 6).trans rfl
       have hcz26_7 : wc.cell? ⟨gb127, 7, none⟩ = some (.slice A0_7 l0_7.length c0_7) := (blk_cell BK127.out 7).trans rfl
       have hcz26_8 : wc.cell? ⟨gb127, 8, none⟩ = some (.int .i64 a0_8) := (blk_cell BK127.out 8).trans rfl
       have hcz26_9 : wc.cell? ⟨gb127, 9, none⟩ = some (.int .i64 a0_9) := (blk_cell BK127.out 9).trans rfl
       have hcz26_10 : wc.cell? ⟨gb127, 10, none⟩ = some (.int .i64 a0_10) := (blk_cell BK127.out 10).trans rfl
       have hfz26_0 := blk_frozen BK127.out 0
       have hfz26_1 := blk_frozen BK127.out 1
       have hfz26_2 := blk_frozen BK127.out 2
       have hfz26_3 := blk_frozen BK127.out 3
       have hfz26_4 := blk_frozen BK127.out 4
       have hfz26_5 := blk_frozen BK127.out 5
       have hfz26_6 := blk_frozen BK127.out 6
       have hfz26_7 := blk_frozen BK127.out 7
       have hfz26_8 := blk_frozen BK127.out 8
       have hfz26_9 := blk_frozen BK127.out 9
       have hfz26_10 := blk_frozen BK127.out 10
       go_wp2
       repeat (go_quiet (fail); try go_wp2)
       go_meet
       case rel => exact ⟨_, (true), (by first | rfl | (simp; done) | (simp [*]; done)), H', ⟨by have := HJ3.out; have := HJ11.out; first | omega | exact Nat.le_refl _⟩, ⟨by (with_reducible repeat (first | refine blk_drewN ?_ _ | refine blk_drew ?_ | refine blk_alloc ?_ _)); exact BK127.out⟩, ⟨by repeat (first | (with_reducible first | exact HB.out | apply below_alloc | apply pw_below_drewN | apply below_drew1 | refine below_set ?_ GE127.out) | exact HB.out)⟩⟩
     rw [if_pos c22] at H
     have c22b0 : ((l0_5.length : Int) == x4_3) = true := beq_iff_eq.mpr c22
     have c22b1 : ((l0_5.length : Int) != x4_3) = false := bne_eq_false_iff_eq.mpr c22
     clear c22
     (first | rw [c22b0] | (simp only [i64_w, i32_w]; rw [c22b0]) | skip)
     by_cases c23 : (l0_6.length : Int) = x5_3
     rotate_left
     · rw [if_neg c23] at H
       have c23b0 : ((l0_6.length : Int) == x5_3) = false := beq_eq_false_iff_ne.mpr c23
       have c23b1 : ((l0_6.length : Int) != x5_3) = true := bne_iff_ne.mpr c23
       have H' := Aside0.mk H
       clear H
       have hcz25_0 : wc.cell? ⟨gb127, 0, none⟩ = some (.string a0_0) := (blk_cell BK127.out 0).trans rfl
       have hcz25_1 : wc.cell? ⟨gb127, 1, none⟩ = some (.bool a0_1) := (blk_cell BK127.out 1).trans rfl
       have hcz25_2 : wc.cell? ⟨gb127, 2, none⟩ = some (.int .i64 a0_2) := (blk_cell BK127.out 2).trans rfl
       have hcz25_3 : wc.cell? ⟨gb127, 3, none⟩ = some (.int .u64 a0_3) := (blk_cell BK127.out 3).trans rfl
       have hcz25_4 : wc.cell? ⟨gb127, 4, none⟩ = some (.int .i64 a0_4) := (blk_cell BK127.out 4).trans rfl
       have hcz25_5 : wc.cell? ⟨gb127, 5, none⟩ = some (.slice A0_5 l0_5.length c0_5) := (blk_cell BK127.out 5).trans rfl
       have hcz25_6 : wc.cell? ⟨gb127, 6, none⟩ = some (.slice A0_6 l0_6.length c0_6) := (blk_cell BK127.out 6).trans rfl
       have hcz25_7 : wc.cell? ⟨gb127, 7, none⟩ = some (.slice A0_7 l0_7.length c0_7) := (blk_cell BK127.out 7).trans rfl
       have hcz25_8 : wc.cell? ⟨gb127, 8, none⟩ = some (.int .i64 a0_8) := (blk_cell BK127.out 8).trans rfl
       have hcz25_9 : wc.cell? ⟨gb127, 9, none⟩ = some (.int .i64 a0_9) := (blk_cell BK127.out 9).trans rfl
       have hcz25_10 : wc.cell? ⟨gb127, 10, none⟩ = some (.int .i64 a0_10) := (blk_cell BK127.out 10).trans rfl
       have hfz25_0 := blk_frozen BK127.out 0
       have hfz25_1 := blk_frozen BK127.out 1
       have hfz25_2 := blk_frozen BK127.out 2
       have hfz25_3 := blk_frozen BK127.out 3
       have hfz25_4 := blk_frozen BK127.out 4
       have hfz25_5 := blk_frozen BK127.out 5
       have hfz25_6 := blk_frozen BK127.out 6
       have hfz25_7 := blk_frozen BK127.out 7
       have hfz25_8 := blk_frozen BK127.out 8
       have hfz25_9 := blk_frozen BK127.out 9
       have hfz25_10 := blk_frozen BK127.out 10
       go_wp2
       repeat (go_quiet (fail); try go_wp2)
       go_meet
       case rel => exact ⟨_, (true), (by first | rfl | (simp; done) | (simp [*]; done)), H', ⟨by have := HJ3.out; have := HJ11.out; first | omega | exact Nat.le_refl _⟩, ⟨by (with_reducible repeat (first | refine blk_drewN ?_ _ | refine blk_drew ?_ | refine blk_alloc ?_ _)); exact BK127.out⟩, ⟨by repeat (first | (with_reducible first | exact HB.out | apply below_alloc | apply pw_below_drewN | apply below_drew1 | refine below_set ?_ GE127.out) | exact HB.out)⟩⟩
     rw [if_pos c23] at H
     have c23b0 : ((l0_6.length : Int) == x5_3) = true := beq_iff_eq.mpr c23
     have c23b1 : ((l0_6.length : Int) != x5_3) = false := bne_eq_false_iff_eq.mpr c23
     clear c23
     have H' := Aside0.mk H
     clear H
     have hcz24_0 : wc.cell? ⟨gb127, 0, none⟩ = some (.string a0_0) := (blk_cell BK127.out 0).trans rfl
     have hcz24_1 : wc.cell? ⟨gb127, 1, none⟩ = some (.bool a0_1) := (blk_cell BK127.out 1).trans rfl
     have hcz24_2 : wc.cell? ⟨gb127, 2, none⟩ = some (.int .i64 a0_2) := (blk_cell BK127.out 2).trans rfl
     have hcz24_3 : wc.cell? ⟨gb127, 3, none⟩ = some (.int .u64 a0_3) := (blk_cell BK127.out 3).trans rfl
     have hcz24_4 : wc.cell? ⟨gb127, 4, none⟩ = some (.int .i64 a0_4) := (blk_cell BK127.out 4).trans rfl
     have hcz24_5 : wc.cell? ⟨gb127, 5, none⟩ = some (.slice A0_5 l0_5.length c0_5) := (blk_cell BK127.out 5).trans rfl
     have hcz24_6 : wc.cell? ⟨gb127, 6, none⟩ = some (.slice A0_6 l0_6.length c0_6) := (blk_cell BK127.out 6).trans rfl
     have hcz24_7 : wc.cell? ⟨gb127, 7, none⟩ = some (.slice A0_7 l0_7.length c0_7) := (blk_cell BK127.out 7).trans rfl
     have hcz24_8 : wc.cell? ⟨gb127, 8, none⟩ = some (.int .i64 a0_8) := (blk_cell BK127.out 8).trans rfl
     have hcz24_9 : wc.cell? ⟨gb127, 9, none⟩ = some (.int .i64 a0_9) := (blk_cell BK127.out 9).trans rfl
     have hcz24_10 : wc.cell? ⟨gb127, 10, none⟩ = some (.int .i64 a0_10) := (blk_cell BK127.out 10).trans rfl
     have hfz24_0 := blk_frozen BK127.out 0
     have hfz24_1 := blk_frozen BK127.out 1
     have hfz24_2 := blk_frozen BK127.out 2
     have hfz24_3 := blk_frozen BK127.out 3
     have hfz24_4 := blk_frozen BK127.out 4
     have hfz24_5 := blk_frozen BK127.out 5
     have hfz24_6 := blk_frozen BK127.out 6
     have hfz24_7 := blk_frozen BK127.out 7
     have hfz24_8 := blk_frozen BK127.out 8
     have hfz24_9 := blk_frozen BK127.out 9
     have hfz24_10 := blk_frozen BK127.out 10
     go_wp2
     repeat (go_quiet (fail); try go_wp2)
     go_meet
     case rel => exact ⟨_, (((l0_7.length : Int) != x5_3)), (by first | rfl | (simp; done) | (simp [*]; done)), H', ⟨by have := HJ3.out; have := HJ11.out; first | omega | exact Nat.le_refl _⟩, ⟨by (with_reducible repeat (first | refine blk_drewN ?_ _ | refine blk_drew ?_ | refine blk_alloc ?_ _)); exact BK127.out⟩, ⟨by repeat (first | (with_reducible first | exact HB.out | apply below_alloc | apply pw_below_drewN | apply below_drew1 | refine below_set ?_ GE127.out) | exact HB.out)⟩⟩
    clear HC21
    obtain ⟨kq, x39_20, rfl, HA, HJ20, BK127, HB⟩ := hcut
    cases kq with
    | zero => exact absurd HA.out (by simp [lib_CheckCell.j2])
    | succ kj20 =>
     have H := HA.out
     clear HA
     simp only [lib_CheckCell.j2] at H
     by_cases c27 : x39_20 = true
     · subst c27
       have H1 : (some 4) = some r := by rw [if_pos rfl] at H; exact H
       clear H
       have H := H1
       clear H1
       obtain rfl := Option.some.inj H
       go_wp2
       repeat (go_quiet (fail); try go_wp2)
       go_ret
       exact ⟨by first | rfl | (simp [errW_none, errW_some] <;> rfl) | (simp [*, errW_none, errW_some] <;> rfl), by repeat (first | (with_reducible first | exact HB.out | apply below_alloc | apply pw_below_drewN | apply below_drew1 | refine below_set ?_ GE127.out) | exact HB.out)⟩
     replace c27 := Bool.eq_false_iff.mpr c27
     subst c27
     have H1 : (if a0_1 = true then (if a0_3 = 0 then ((netlist_Mask.f a0_2).bind fun t129 => (lib_CheckCell.j3 kj20 ((Go.bits .andNot .u64 a0_3 t129) != 0) a0_0 a0_1 a0_2 a0_3 a0_4 l0_5 l0_6 l0_7 a0_8 a0_9 a0_10)) else (lib_CheckCell.j3 kj20 true a0_0 a0_1 a0_2 a0_3 a0_4 l0_5 l0_6 l0_7 a0_8 a0_9 a0_10)) else ((netlist_Mask.f a0_2).bind fun t130 => (lib_CheckCell.j3 kj20 ((Go.bits .andNot .u64 a0_3 t130) != 0) a0_0 a0_1 a0_2 a0_3 a0_4 l0_5 l0_6 l0_7 a0_8 a0_9 a0_10))) = some r := by rw [if_neg (show ¬ (false = true) by decide)] at H; exact H
     clear H
     have H := H1
     clear H1
     have HC28 := Aside0.mk H
     clear H
     go_upto_region 10 with (fail)
     repeat (go_quiet (fail); go_upto_region 10 with (fail))
     go_cut [59] (fun v59 wc => ∃ (kq : Nat) (x59_27 : Bool), v59 = .bool x59_27 ∧ Aside0 (lib_CheckCell.j3 kq x59_27 a0_0 a0_1 a0_2 a0_3 a0_4 l0_5 l0_6 l0_7 a0_8 a0_9 a0_10 = some r) ∧ Aside0 (kq ≤ kj20) ∧ Aside0 (wc.heap[gb127]? = some (.cells #[.string a0_0, .bool a0_1, .int .i64 a0_2, .int .u64 a0_3, .int .i64 a0_4, (.slice A0_5 l0_5.length c0_5), (.slice A0_6 l0_6.length c0_6), (.slice A0_7 l0_7.length c0_7), .int .i64 a0_8, .int .i64 a0_9, .int .i64 a0_10] 32 (0, 0))) ∧ Aside0 (Below w.heap.size w wc))
     case first =>
      have H := HC28.out
      clear HC28
      by_cases c29 : a0_1 = true
      rotate_left
      · replace c29 := Bool.eq_false_iff.mpr c29
        subst c29
        have H1 : ((netlist_Mask.f a0_2).bind fun t130 => (lib_CheckCell.j3 kj20 ((Go.bits .andNot .u64 a0_3 t130) != 0) a0_0 false a0_2 a0_3 a0_4 l0_5 l0_6 l0_7 a0_8 a0_9 a0_10)) = some r := by rw [if_neg (show ¬ (false = true) by decide)] at H; exact H
        clear H
        have H := H1
        clear H1
        replace H := Option.bind_eq_some_iff.mp H
        obtain ⟨t130, A340, H⟩ := H
        replace H : (lib_CheckCell.j3 kj20 ((Go.bits .andNot .u64 a0_3 t130) != 0) a0_0 false a0_2 a0_3 a0_4 l0_5 l0_6 l0_7 a0_8 a0_9 a0_10) = some r := H
        have A34 := Aside0.mk A340
        clear A340
        have H' := Aside0.mk H
        clear H
        have hcz35_0 : wc.cell? ⟨gb127, 0, none⟩ = some (.string a0_0) := (blk_cell BK127.out 0).trans rfl
        have hcz35_1 : wc.cell? ⟨gb127, 1, none⟩ = some (.bool false) := (blk_cell BK127.out 1).trans rfl
        have hcz35_2 : wc.cell? ⟨gb127, 2, none⟩ = some (.int .i64 a0_2) := (blk_cell BK127.out 2).trans rfl
        have hcz35_3 : wc.cell? ⟨gb127, 3, none⟩ = some (.int .u64 a0_3) := (blk_cell BK127.out 3).trans rfl
        have hcz35_4 : wc.cell? ⟨gb127, 4, none⟩ = some (.int .i64 a0_4) := (blk_cell BK127.out 4).trans rfl
        have hcz35_5 : wc.cell? ⟨gb127, 5, none⟩ = some (.slice A0_5 l0_5.length c0_5) := (blk_cell BK127.out 5).trans rfl
        have hcz35_6 : wc.cell? ⟨gb127, 6, none⟩ = some (.slice A0_6 l0_6.length c0_6) := (blk_cell BK127.out 6).trans rfl
        have hcz35_7 : wc.cell? ⟨gb127, 7, none⟩ = some (.slice A0_7 l0_7.length c0_7) := (blk_cell BK127.out 7).trans rfl
        have hcz35_8 : wc.cell? ⟨gb127, 8, none⟩ = some (.int .i64 a0_8) := (blk_cell BK127.out 8).trans rfl
        have hcz35_9 : wc.cell? ⟨gb127, 9, none⟩ = some (.int .i64 a0_9) := (blk_cell BK127.out 9).trans rfl
        have hcz35_10 : wc.cell? ⟨gb127, 10, none⟩ = some (.int .i64 a0_10) := (blk_cell BK127.out 10).trans rfl
        have hfz35_0 := blk_frozen BK127.out 0
        have hfz35_1 := blk_frozen BK127.out 1
        have hfz35_2 := blk_frozen BK127.out 2
        have hfz35_3 := blk_frozen BK127.out 3
        have hfz35_4 := blk_frozen BK127.out 4
        have hfz35_5 := blk_frozen BK127.out 5
        have hfz35_6 := blk_frozen BK127.out 6
        have hfz35_7 := blk_frozen BK127.out 7
        have hfz35_8 := blk_frozen BK127.out 8
        have hfz35_9 := blk_frozen BK127.out 9
        have hfz35_10 := blk_frozen BK127.out 10
        go_wp2_with fail
        repeat (go_quiet (first | (go_at_call 52; (with_reducible refine (netlist_Mask.calls a0_2 t130 _ A34.out).mono ?_); rintro e w' ⟨rfl, ⟨nd, rfl⟩⟩; (try first | exact ⟨rfl, _, World.drewN_drewN _ _ _⟩ | exact ⟨rfl, _, Eq.trans (World.drewN_drewN _ _ _) (congrArg (World.drewN _) (Nat.add_assoc _ _ _))⟩))); try go_wp2_with fail)
        go_meet
        case rel => exact ⟨_, (((Go.bits .andNot .u64 a0_3 t130) != 0)), (by first | rfl | (simp; done) | (simp [*]; done)), H', ⟨by have := HJ3.out; have := HJ11.out; have := HJ20.out; first | omega | exact Nat.le_refl _⟩, ⟨by (with_reducible repeat (first | refine blk_drewN ?_ _ | refine blk_drew ?_ | refine blk_alloc ?_ _)); exact BK127.out⟩, ⟨by repeat (first | (with_reducible first | exact HB.out | apply below_alloc | apply pw_below_drewN | apply below_drew1 | refine below_set ?_ GE127.out) | exact HB.out)⟩⟩
      subst c29
      have H1 : (if a0_3 = 0 then ((netlist_Mask.f a0_2).bind fun t129 => (lib_CheckCell.j3 kj20 ((Go.bits .andNot .u64 a0_3 t129) != 0) a0_0 true a0_2 a0_3 a0_4 l0_5 l0_6 l0_7 a0_8 a0_9 a0_10)) else (lib_CheckCell.j3 kj20 true a0_0 true a0_2 a0_3 a0_4 l0_5 l0_6 l0_7 a0_8 a0_9 a0_10)) = some r := by rw [if_pos rfl] at H; exact H
      clear H
      have H := H1
      clear H1
      by_cases c30 : a0_3 = 0
      rotate_left
      · rw [if_neg c30] at H
        have c30b0 : (a0_3 == 0) = false := beq_eq_false_iff_ne.mpr c30
        have c30b1 : (a0_3 != 0) = true := bne_iff_ne.mpr c30
        (first | rw [c30b0] | (simp only [i64_w, i32_w]; rw [c30b0]) | skip)
        have H' := Aside0.mk H
        clear H
        have hcz33_0 : wc.cell? ⟨gb127, 0, none⟩ = some (.string a0_0) := (blk_cell BK127.out 0).trans rfl
        have hcz33_1 : wc.cell? ⟨gb127, 1, none⟩ = some (.bool true) := (blk_cell BK127.out 1).trans rfl
        have hcz33_2 : wc.cell? ⟨gb127, 2, none⟩ = some (.int .i64 a0_2) := (blk_cell BK127.out 2).trans rfl
        have hcz33_3 : wc.cell? ⟨gb127, 3, none⟩ = some (.int .u64 a0_3) := (blk_cell BK127.out 3).trans rfl
        have hcz33_4 : wc.cell? ⟨gb127, 4, none⟩ = some (.int .i64 a0_4) := (blk_cell BK127.out 4).trans rfl
        have hcz33_5 : wc.cell? ⟨gb127, 5, none⟩ = some (.slice A0_5 l0_5.length c0_5) := (blk_cell BK127.out 5).trans rfl
        have hcz33_6 : wc.cell? ⟨gb127, 6, none⟩ = some (.slice A0_6 l0_6.length c0_6) := (blk_cell BK127.out 6).trans rfl
        have hcz33_7 : wc.cell? ⟨gb127, 7, none⟩ = some (.slice A0_7 l0_7.length c0_7) := (blk_cell BK127.out 7).trans rfl
        have hcz33_8 : wc.cell? ⟨gb127, 8, none⟩ = some (.int .i64 a0_8) := (blk_cell BK127.out 8).trans rfl
        have hcz33_9 : wc.cell? ⟨gb127, 9, none⟩ = some (.int .i64 a0_9) := (blk_cell BK127.out 9).trans rfl
        have hcz33_10 : wc.cell? ⟨gb127, 10, none⟩ = some (.int .i64 a0_10) := (blk_cell BK127.out 10).trans rfl
        have hfz33_0 := blk_frozen BK127.out 0
        have hfz33_1 := blk_frozen BK127.out 1
        have hfz33_2 := blk_frozen BK127.out 2
        have hfz33_3 := blk_frozen BK127.out 3
        have hfz33_4 := blk_frozen BK127.out 4
        have hfz33_5 := blk_frozen BK127.out 5
        have hfz33_6 := blk_frozen BK127.out 6
        have hfz33_7 := blk_frozen BK127.out 7
        have hfz33_8 := blk_frozen BK127.out 8
        have hfz33_9 := blk_frozen BK127.out 9
        have hfz33_10 := blk_frozen BK127.out 10
        go_wp2
        repeat (go_quiet (fail); try go_wp2)
        go_meet
        case rel => exact ⟨_, (true), (by first | rfl | (simp; done) | (simp [*]; done)), H', ⟨by have := HJ3.out; have := HJ11.out; have := HJ20.out; first | omega | exact Nat.le_refl _⟩, ⟨by (with_reducible repeat (first | refine blk_drewN ?_ _ | refine blk_drew ?_ | refine blk_alloc ?_ _)); exact BK127.out⟩, ⟨by repeat (first | (with_reducible first | exact HB.out | apply below_alloc | apply pw_below_drewN | apply below_drew1 | refine below_set ?_ GE127.out) | exact HB.out)⟩⟩
      rw [if_pos c30] at H
      have c30b0 : (a0_3 == 0) = true := beq_iff_eq.mpr c30
      have c30b1 : (a0_3 != 0) = false := bne_eq_false_iff_eq.mpr c30
      clear c30
      (first | rw [c30b0] | (simp only [i64_w, i32_w]; rw [c30b0]) | skip)
      replace H := Option.bind_eq_some_iff.mp H
      obtain ⟨t129, A310, H⟩ := H
      replace H : (lib_CheckCell.j3 kj20 ((Go.bits .andNot .u64 a0_3 t129) != 0) a0_0 true a0_2 a0_3 a0_4 l0_5 l0_6 l0_7 a0_8 a0_9 a0_10) = some r := H
      have A31 := Aside0.mk A310
      clear A310
      have H' := Aside0.mk H
      clear H
      have hcz32_0 : wc.cell? ⟨gb127, 0, none⟩ = some (.string a0_0) := (blk_cell BK127.out 0).trans rfl
      have hcz32_1 : wc.cell? ⟨gb127, 1, none⟩ = some (.bool true) := (blk_cell BK127.out 1).trans rfl
      have hcz32_2 : wc.cell? ⟨gb127, 2, none⟩ = some (.int .i64 a0_2) := (blk_cell BK127.out 2).trans rfl
      have hcz32_3 : wc.cell? ⟨gb127, 3, none⟩ = some (.int .u64 a0_3) := (blk_cell BK127.out 3).trans rfl
      have hcz32_4 : wc.cell? ⟨gb127, 4, none⟩ = some (.int .i64 a0_4) := (blk_cell BK127.out 4).trans rfl
      have hcz32_5 : wc.cell? ⟨gb127, 5, none⟩ = some (.slice A0_5 l0_5.length c0_5) := (blk_cell BK127.out 5).trans rfl
      have hcz32_6 : wc.cell? ⟨gb127, 6, none⟩ = some (.slice A0_6 l0_6.length c0_6) := (blk_cell BK127.out 6).trans rfl
      have hcz32_7 : wc.cell? ⟨gb127, 7, none⟩ = some (.slice A0_7 l0_7.length c0_7) := (blk_cell BK127.out 7).trans rfl
      have hcz32_8 : wc.cell? ⟨gb127, 8, none⟩ = some (.int .i64 a0_8) := (blk_cell BK127.out 8).trans rfl
      have hcz32_9 : wc.cell? ⟨gb127, 9, none⟩ = some (.int .i64 a0_9) := (blk_cell BK127.out 9).trans rfl
      have hcz32_10 : wc.cell? ⟨gb127, 10, none⟩ = some (.int .i64 a0_10) := (blk_cell BK127.out 10).trans rfl
      have hfz32_0 := blk_frozen BK127.out 0
      have hfz32_1 := blk_frozen BK127.out 1
      have hfz32_2 := blk_frozen BK127.out 2
      have hfz32_3 := blk_frozen BK127.out 3
      have hfz32_4 := blk_frozen BK127.out 4
      have hfz32_5 := blk_frozen BK127.out 5
      have hfz32_6 := blk_frozen BK127.out 6
      have hfz32_7 := blk_frozen BK127.out 7
      have hfz32_8 := blk_frozen BK127.out 8
      have hfz32_9 := blk_frozen BK127.out 9
      have hfz32_10 := blk_frozen BK127.out 10
      go_wp2_with fail
      repeat (go_quiet (first | (go_at_call 52; (with_reducible refine (netlist_Mask.calls a0_2 t129 _ A31.out).mono ?_); rintro e w' ⟨rfl, ⟨nd, rfl⟩⟩; (try first | exact ⟨rfl, _, World.drewN_drewN _ _ _⟩ | exact ⟨rfl, _, Eq.trans (World.drewN_drewN _ _ _) (congrArg (World.drewN _) (Nat.add_assoc _ _ _))⟩))); try go_wp2_with fail)
      go_meet
      case rel => exact ⟨_, (((Go.bits .andNot .u64 a0_3 t129) != 0)), (by first | rfl | (simp; done) | (simp [*]; done)), H', ⟨by have := HJ3.out; have := HJ11.out; have := HJ20.out; first | omega | exact Nat.le_refl _⟩, ⟨by (with_reducible repeat (first | refine blk_drewN ?_ _ | refine blk_drew ?_ | refine blk_alloc ?_ _)); exact BK127.out⟩, ⟨by repeat (first | (with_reducible first | exact HB.out | apply below_alloc | apply pw_below_drewN | apply below_drew1 | refine below_set ?_ GE127.out) | exact HB.out)⟩⟩
     clear HC28
     obtain ⟨kq, x59_27, rfl, HA, HJ27, BK127, HB⟩ := hcut
     cases kq with
     | zero => exact absurd HA.out (by simp [lib_CheckCell.j3])
     | succ kj27 =>
      have H := HA.out
      clear HA
      simp only [lib_CheckCell.j3] at H
      by_cases c36 : x59_27 = true
      · subst c36
        have H1 : (some 4) = some r := by rw [if_pos rfl] at H; exact H
        clear H
        have H := H1
        clear H1
        obtain rfl := Option.some.inj H
        go_wp2
        repeat (go_quiet (fail); try go_wp2)
        go_ret
        exact ⟨by first | rfl | (simp [errW_none, errW_some] <;> rfl) | (simp [*, errW_none, errW_some] <;> rfl), by repeat (first | (with_reducible first | exact HB.out | apply below_alloc | apply pw_below_drewN | apply below_drew1 | refine below_set ?_ GE127.out) | exact HB.out)⟩
      replace c36 := Bool.eq_false_iff.mpr c36
      subst c36
      have H1 : ((lib_in.f kj27 64 (([a0_4] : List Int))).bind fun t134 => (if t134 = true then (if a0_4 = 0 then (lib_CheckCell.j4 kj27 true a0_0 a0_1 a0_2 a0_3 a0_4 l0_5 l0_6 l0_7 a0_8 a0_9 a0_10) else ((lib_in.f kj27 1000 l0_5).bind fun t135 => (if t135 = true then ((lib_in.f kj27 1000 (([a0_8] : List Int))).bind fun t139 => (lib_CheckCell.j4 kj27 (!t139) a0_0 a0_1 a0_2 a0_3 a0_4 l0_5 l0_6 l0_7 a0_8 a0_9 a0_10)) else (lib_CheckCell.j4 kj27 true a0_0 a0_1 a0_2 a0_3 a0_4 l0_5 l0_6 l0_7 a0_8 a0_9 a0_10)))) else (lib_CheckCell.j4 kj27 true a0_0 a0_1 a0_2 a0_3 a0_4 l0_5 l0_6 l0_7 a0_8 a0_9 a0_10))) = some r := by rw [if_neg (show ¬ (false = true) by decide)] at H; exact H
      clear H
      have H := H1
      clear H1
      have HC37 := Aside0.mk H
      clear H
      go_upto_region 12 with (fail)
      repeat (go_quiet (fail); go_upto_region 12 with (fail))
      go_cut [76] (fun v76 wc => ∃ (kq : Nat) (x76_36 : Bool), v76 = .bool x76_36 ∧ Aside0 (lib_CheckCell.j4 kq x76_36 a0_0 a0_1 a0_2 a0_3 a0_4 l0_5 l0_6 l0_7 a0_8 a0_9 a0_10 = some r) ∧ Aside0 (kq ≤ kj27) ∧ Aside0 (wc.heap[gb127]? = some (.cells #[.string a0_0, .bool a0_1, .int .i64 a0_2, .int .u64 a0_3, .int .i64 a0_4, (.slice A0_5 l0_5.length c0_5), (.slice A0_6 l0_6.length c0_6), (.slice A0_7 l0_7.length c0_7), .int .i64 a0_8, .int .i64 a0_9, .int .i64 a0_10] 32 (0, 0))) ∧ Aside0 (Below w.heap.size w wc))
      case first =>
       have H := HC37.out
       clear HC37
       obtain ⟨y131, hy131⟩ : ∃ y_ : List Int, y_ = (([a0_4] : List Int)) := ⟨_, rfl⟩
       replace H : ((lib_in.f kj27 64 y131).bind fun t134 => (if t134 = true then (if a0_4 = 0 then (lib_CheckCell.j4 kj27 true a0_0 a0_1 a0_2 a0_3 a0_4 l0_5 l0_6 l0_7 a0_8 a0_9 a0_10) else ((lib_in.f kj27 1000 l0_5).bind fun t135 => (if t135 = true then ((lib_in.f kj27 1000 (([a0_8] : List Int))).bind fun t139 => (lib_CheckCell.j4 kj27 (!t139) a0_0 a0_1 a0_2 a0_3 a0_4 l0_5 l0_6 l0_7 a0_8 a0_9 a0_10)) else (lib_CheckCell.j4 kj27 true a0_0 a0_1 a0_2 a0_3 a0_4 l0_5 l0_6 l0_7 a0_8 a0_9 a0_10)))) else (lib_CheckCell.j4 kj27 true a0_0 a0_1 a0_2 a0_3 a0_4 l0_5 l0_6 l0_7 a0_8 a0_9 a0_10))) = some r := by first | (rw [hy131]; with_reducible exact H) | (have H2_ := (Option.bind_some _ _).symm.trans H; rw [hy131]; with_reducible exact H2_) | (have H2_ := (Option.bind_some _ _).symm.trans H; with_reducible exact H2_) | with_reducible exact H | (rw [hy131]; exact H) | exact H
       have Ny131 := Aside0.mk hy131
       clear hy131
       replace H := Option.bind_eq_some_iff.mp H
       obtain ⟨t134, A380, H⟩ := H
       replace H : (if t134 = true then (if a0_4 = 0 then (lib_CheckCell.j4 kj27 true a0_0 a0_1 a0_2 a0_3 a0_4 l0_5 l0_6 l0_7 a0_8 a0_9 a0_10) else ((lib_in.f kj27 1000 l0_5).bind fun t135 => (if t135 = true then ((lib_in.f kj27 1000 (([a0_8] : List Int))).bind fun t139 => (lib_CheckCell.j4 kj27 (!t139) a0_0 a0_1 a0_2 a0_3 a0_4 l0_5 l0_6 l0_7 a0_8 a0_9 a0_10)) else (lib_CheckCell.j4 kj27 true a0_0 a0_1 a0_2 a0_3 a0_4 l0_5 l0_6 l0_7 a0_8 a0_9 a0_10)))) else (lib_CheckCell.j4 kj27 true a0_0 a0_1 a0_2 a0_3 a0_4 l0_5 l0_6 l0_7 a0_8 a0_9 a0_10)) = some r := H
       have A38 := Aside0.mk A380
       clear A380
       by_cases c39 : t134 = true
       rotate_left
       · replace c39 := Bool.eq_false_iff.mpr c39
         subst c39
         have H1 : (lib_CheckCell.j4 kj27 true a0_0 a0_1 a0_2 a0_3 a0_4 l0_5 l0_6 l0_7 a0_8 a0_9 a0_10) = some r := by rw [if_neg (show ¬ (false = true) by decide)] at H; exact H
         clear H
         have H := H1
         clear H1
         have H' := Aside0.mk H
         clear H
         have hcz62_0 : wc.cell? ⟨gb127, 0, none⟩ = some (.string a0_0) := (blk_cell BK127.out 0).trans rfl
         have hcz62_1 : wc.cell? ⟨gb127, 1, none⟩ = some (.bool a0_1) := (blk_cell BK127.out 1).trans rfl
         have hcz62_2 : wc.cell? ⟨gb127, 2, none⟩ = some (.int .i64 a0_2) := (blk_cell BK127.out 2).trans rfl
         have hcz62_3 : wc.cell? ⟨gb127, 3, none⟩ = some (.int .u64 a0_3) := (blk_cell BK127.out 3).trans rfl
         have hcz62_4 : wc.cell? ⟨gb127, 4, none⟩ = some (.int .i64 a0_4) := (blk_cell BK127.out 4).trans rfl
         have hcz62_5 : wc.cell? ⟨gb127, 5, none⟩ = some (.slice A0_5 l0_5.length c0_5) := (blk_cell BK127.out 5).trans rfl
         have hcz62_6 : wc.cell? ⟨gb127, 6, none⟩ = some (.slice A0_6 l0_6.length c0_6) := (blk_cell BK127.out 6).trans rfl
         have hcz62_7 : wc.cell? ⟨gb127, 7, none⟩ = some (.slice A0_7 l0_7.length c0_7) := (blk_cell BK127.out 7).trans rfl
         have hcz62_8 : wc.cell? ⟨gb127, 8, none⟩ = some (.int .i64 a0_8) := (blk_cell BK127.out 8).trans rfl
         have hcz62_9 : wc.cell? ⟨gb127, 9, none⟩ = some (.int .i64 a0_9) := (blk_cell BK127.out 9).trans rfl
         have hcz62_10 : wc.cell? ⟨gb127, 10, none⟩ = some (.int .i64 a0_10) := (blk_cell BK127.out 10).trans rfl
         have hfz62_0 := blk_frozen BK127.out 0
         have hfz62_1 := blk_frozen BK127.out 1
         have hfz62_2 := blk_frozen BK127.out 2
         have hfz62_3 := blk_frozen BK127.out 3
         have hfz62_4 := blk_frozen BK127.out 4
         have hfz62_5 := blk_frozen BK127.out 5
         have hfz62_6 := blk_frozen BK127.out 6
         have hfz62_7 := blk_frozen BK127.out 7
         have hfz62_8 := blk_frozen BK127.out 8
         have hfz62_9 := blk_frozen BK127.out 9
         have hfz62_10 := blk_frozen BK127.out 10
         go_wp2_with (first | ((with_reducible refine gate_dst (N := 79) rfl ?_); (try (refine gate_guard (by rfl) ?_; dsimp only)); refine Kd.R_lit (Kd.int .i64) _ 3 ?hg (N := 79) ?hd (xs := ([a0_4] : List Int)) (inner := [.int .i64 a0_4]) (ok := fun _ => True) (okp := fun _ => True) ?hr ?hp (fun _ hk => hk) trivial (Below.refl _ _) (Nat.le_refl _) (by simp) ?_; (case hd => rfl); (case hg => rfl); (case hr => first | (go_simp; done) | (go_simp; rfl)); (case hp => exact (Reps.one (show Kd.M (Kd.int .i64) _ _ _ a0_4 [.int .i64 a0_4] from rfl) (Reps.none _ _))); intro v132 w63 ho64 hb hg_ hnew_; clear hg_ hnew_; (first | rw [← Ny131.out] at ho64 | (simp only [Int.reduceToNat] at ho64; rw [← Ny131.out] at ho64)); have n0_ := Aside0.mk (Kd.R_lower ho64 (below_size (by repeat (first | (with_reducible first | exact HB.out | apply below_alloc | apply pw_below_drewN | apply below_drew1 | refine below_set ?_ GE127.out) | exact HB.out)))); have n1_ := Aside0.mk (blk_below (g := gb127) (o := .cells #[.string a0_0, .bool a0_1, .int .i64 a0_2, .int .u64 a0_3, .int .i64 a0_4, .slice A0_5 l0_5.length c0_5, .slice A0_6 l0_6.length c0_6, .slice A0_7 l0_7.length c0_7, .int .i64 a0_8, .int .i64 a0_9, .int .i64 a0_10] 32 (0, 0)) (by (with_reducible repeat (first | refine blk_drewN ?_ _ | refine blk_drew ?_ | refine blk_alloc ?_ _)); exact BK127.out) hb); have n2_ := Aside0.mk (below_step (by repeat (first | (with_reducible first | exact HB.out | apply below_alloc | apply pw_below_drewN | apply below_drew1 | refine below_set ?_ GE127.out) | exact HB.out)) hb); clear BK127; clear HB; have HO133 := n0_; have BK127 := n1_; have HB := n2_; clear n0_ n1_ n2_; clear hb ho64; obtain ⟨Ao65, co65, eo65⟩ := Kd.R_slice HO133.out; subst eo65) | (go_at_call 53; (with_reducible refine (lib_in.calls kj27 64 _ _ y131 false _ ?side1 ?side2 A38.out).mono ?_); (case side1 => repeat (first | exact (Kd.R_reads' HO133.out).2.2 | (with_reducible refine Kd.C_alloc ?_ _) | (with_reducible refine Kd.C_drewN ?_ _) | (with_reducible refine Kd.C_drew ?_))); (case side2 => exact (Kd.R_reads' HO133.out).2.1); rintro e w' ⟨rfl, ⟨nd, rfl⟩⟩; (try first | exact ⟨rfl, _, World.drewN_drewN _ _ _⟩ | exact ⟨rfl, _, Eq.trans (World.drewN_drewN _ _ _) (congrArg (World.drewN _) (Nat.add_assoc _ _ _))⟩)))
         repeat (go_quiet (fail); try go_wp2_with fail)
         go_meet
         case rel => exact ⟨_, (true), (by first | rfl | (simp; done) | (simp [*]; done)), H', ⟨by have := HJ3.out; have := HJ11.out; have := HJ20.out; have := HJ27.out; first | omega | exact Nat.le_refl _⟩, ⟨by (with_reducible repeat (first | refine blk_drewN ?_ _ | refine blk_drew ?_ | refine blk_alloc ?_ _)); exact BK127.out⟩, ⟨by repeat (first | (with_reducible first | exact HB.out | apply below_alloc | apply pw_below_drewN | apply below_drew1 | refine below_set ?_ GE127.out) | exact HB.out)⟩⟩
       subst c39
       have H1 : (if a0_4 = 0 then (lib_CheckCell.j4 kj27 true a0_0 a0_1 a0_2 a0_3 a0_4 l0_5 l0_6 l0_7 a0_8 a0_9 a0_10) else ((lib_in.f kj27 1000 l0_5).bind fun t135 => (if t135 = true then ((lib_in.f kj27 1000 (([a0_8] : List Int))).bind fun t139 => (lib_CheckCell.j4 kj27 (!t139) a0_0 a0_1 a0_2 a0_3 a0_4 l0_5 l0_6 l0_7 a0_8 a0_9 a0_10)) else (lib_CheckCell.j4 kj27 true a0_0 a0_1 a0_2 a0_3 a0_4 l0_5 l0_6 l0_7 a0_8 a0_9 a0_10)))) = some r := by rw [if_pos rfl] at H; exact H
       clear H
       have H := H1
       clear H1
       by_cases c40 : a0_4 = 0
       · rw [if_pos c40] at H
         have c40b0 : (a0_4 == 0) = true := beq_iff_eq.mpr c40
         have c40b1 : (a0_4 != 0) = false := bne_eq_false_iff_eq.mpr c40
         clear c40
         (first | rw [c40b0] | (simp only [i64_w, i32_w]; rw [c40b0]) | skip)
         have H' := Aside0.mk H
         clear H
         have hcz41_0 : wc.cell? ⟨gb127, 0, none⟩ = some (.string a0_0) := (blk_cell BK127.out 0).trans rfl
         have hcz41_1 : wc.cell? ⟨gb127, 1, none⟩ = some (.bool a0_1) := (blk_cell BK127.out 1).trans rfl
         have hcz41_2 : wc.cell? ⟨gb127, 2, none⟩ = some (.int .i64 a0_2) := (blk_cell BK127.out 2).trans rfl
         have hcz41_3 : wc.cell? ⟨gb127, 3, none⟩ = some (.int .u64 a0_3) := (blk_cell BK127.out 3).trans rfl
         have hcz41_4 : wc.cell? ⟨gb127, 4, none⟩ = some (.int .i64 a0_4) := (blk_cell BK127.out 4).trans rfl
         have hcz41_5 : wc.cell? ⟨gb127, 5, none⟩ = some (.slice A0_5 l0_5.length c0_5) := (blk_cell BK127.out 5).trans rfl
         have hcz41_6 : wc.cell? ⟨gb127, 6, none⟩ = some (.slice A0_6 l0_6.length c0_6) := (blk_cell BK127.out 6).trans rfl
         have hcz41_7 : wc.cell? ⟨gb127, 7, none⟩ = some (.slice A0_7 l0_7.length c0_7) := (blk_cell BK127.out 7).trans rfl
         have hcz41_8 : wc.cell? ⟨gb127, 8, none⟩ = some (.int .i64 a0_8) := (blk_cell BK127.out 8).trans rfl
         have hcz41_9 : wc.cell? ⟨gb127, 9, none⟩ = some (.int .i64 a0_9) := (blk_cell BK127.out 9).trans rfl
         have hcz41_10 : wc.cell? ⟨gb127, 10, none⟩ = some (.int .i64 a0_10) := (blk_cell BK127.out 10).trans rfl
         have hfz41_0 := blk_frozen BK127.out 0
         have hfz41_1 := blk_frozen BK127.out 1
         have hfz41_2 := blk_frozen BK127.out 2
         have hfz41_3 := blk_frozen BK127.out 3
         have hfz41_4 := blk_frozen BK127.out 4
         have hfz41_5 := blk_frozen BK127.out 5
         have hfz41_6 := blk_frozen BK127.out 6
         have hfz41_7 := blk_frozen BK127.out 7
         have hfz41_8 := blk_frozen BK127.out 8
         have hfz41_9 := blk_frozen BK127.out 9
         have hfz41_10 := blk_frozen BK127.out 10
         go_wp2_with (first | ((with_reducible refine gate_dst (N := 79) rfl ?_); (try (refine gate_guard (by rfl) ?_; dsimp only)); refine Kd.R_lit (Kd.int .i64) _ 3 ?hg (N := 79) ?hd (xs := ([a0_4] : List Int)) (inner := [.int .i64 a0_4]) (ok := fun _ => True) (okp := fun _ => True) ?hr ?hp (fun _ hk => hk) trivial (Below.refl _ _) (Nat.le_refl _) (by simp) ?_; (case hd => rfl); (case hg => rfl); (case hr => first | (go_simp; done) | (go_simp; rfl)); (case hp => exact (Reps.one (show Kd.M (Kd.int .i64) _ _ _ a0_4 [.int .i64 a0_4] from rfl) (Reps.none _ _))); intro v132 w42 ho43 hb hg_ hnew_; clear hg_ hnew_; (first | rw [← Ny131.out] at ho43 | (simp only [Int.reduceToNat] at ho43; rw [← Ny131.out] at ho43)); have n0_ := Aside0.mk (Kd.R_lower ho43 (below_size (by repeat (first | (with_reducible first | exact HB.out | apply below_alloc | apply pw_below_drewN | apply below_drew1 | refine below_set ?_ GE127.out) | exact HB.out)))); have n1_ := Aside0.mk (blk_below (g := gb127) (o := .cells #[.string a0_0, .bool a0_1, .int .i64 a0_2, .int .u64 a0_3, .int .i64 a0_4, .slice A0_5 l0_5.length c0_5, .slice A0_6 l0_6.length c0_6, .slice A0_7 l0_7.length c0_7, .int .i64 a0_8, .int .i64 a0_9, .int .i64 a0_10] 32 (0, 0)) (by (with_reducible repeat (first | refine blk_drewN ?_ _ | refine blk_drew ?_ | refine blk_alloc ?_ _)); exact BK127.out) hb); have n2_ := Aside0.mk (below_step (by repeat (first | (with_reducible first | exact HB.out | apply below_alloc | apply pw_below_drewN | apply below_drew1 | refine below_set ?_ GE127.out) | exact HB.out)) hb); clear BK127; clear HB; have HO133 := n0_; have BK127 := n1_; have HB := n2_; clear n0_ n1_ n2_; clear hb ho43; obtain ⟨Ao44, co44, eo44⟩ := Kd.R_slice HO133.out; subst eo44) | (go_at_call 53; (with_reducible refine (lib_in.calls kj27 64 _ _ y131 true _ ?side1 ?side2 A38.out).mono ?_); (case side1 => repeat (first | exact (Kd.R_reads' HO133.out).2.2 | (with_reducible refine Kd.C_alloc ?_ _) | (with_reducible refine Kd.C_drewN ?_ _) | (with_reducible refine Kd.C_drew ?_))); (case side2 => exact (Kd.R_reads' HO133.out).2.1); rintro e w' ⟨rfl, ⟨nd, rfl⟩⟩; (try first | exact ⟨rfl, _, World.drewN_drewN _ _ _⟩ | exact ⟨rfl, _, Eq.trans (World.drewN_drewN _ _ _) (congrArg (World.drewN _) (Nat.add_assoc _ _ _))⟩); have hcz45_0 : w42.cell? ⟨gb127, 0, none⟩ = some (.string a0_0) := (blk_cell BK127.out 0).trans rfl; have hcz45_1 : w42.cell? ⟨gb127, 1, none⟩ = some (.bool a0_1) := (blk_cell BK127.out 1).trans rfl; have hcz45_2 : w42.cell? ⟨gb127, 2, none⟩ = some (.int .i64 a0_2) := (blk_cell BK127.out 2).trans rfl; have hcz45_3 : w42.cell? ⟨gb127, 3, none⟩ = some (.int .u64 a0_3) := (blk_cell BK127.out 3).trans rfl; have hcz45_4 : w42.cell? ⟨gb127, 4, none⟩ = some (.int .i64 a0_4) := (blk_cell BK127.out 4).trans rfl; have hcz45_5 : w42.cell? ⟨gb127, 5, none⟩ = some (.slice A0_5 l0_5.length c0_5) := (blk_cell BK127.out 5).trans rfl; have hcz45_6 : w42.cell? ⟨gb127, 6, none⟩ = some (.slice A0_6 l0_6.length c0_6) := (blk_cell BK127.out 6).trans rfl; have hcz45_7 : w42.cell? ⟨gb127, 7, none⟩ = some (.slice A0_7 l0_7.length c0_7) := (blk_cell BK127.out 7).trans rfl; have hcz45_8 : w42.cell? ⟨gb127, 8, none⟩ = some (.int .i64 a0_8) := (blk_cell BK127.out 8).trans rfl; have hcz45_9 : w42.cell? ⟨gb127, 9, none⟩ = some (.int .i64 a0_9) := (blk_cell BK127.out 9).trans rfl; have hcz45_10 : w42.cell? ⟨gb127, 10, none⟩ = some (.int .i64 a0_10) := (blk_cell BK127.out 10).trans rfl; have hfz45_0 := blk_frozen BK127.out 0; have hfz45_1 := blk_frozen BK127.out 1; have hfz45_2 := blk_frozen BK127.out 2; have hfz45_3 := blk_frozen BK127.out 3; have hfz45_4 := blk_frozen BK127.out 4; have hfz45_5 := blk_frozen BK127.out 5; have hfz45_6 := blk_frozen BK127.out 6; have hfz45_7 := blk_frozen BK127.out 7; have hfz45_8 := blk_frozen BK127.out 8; have hfz45_9 := blk_frozen BK127.out 9; have hfz45_10 := blk_frozen BK127.out 10))
         repeat (go_quiet (fail); try go_wp2_with fail)
         go_meet
         case rel => exact ⟨_, (true), (by first | rfl | (simp; done) | (simp [*]; done)), H', ⟨by have := HJ3.out; have := HJ11.out; have := HJ20.out; have := HJ27.out; first | omega | exact Nat.le_refl _⟩, ⟨by (with_reducible repeat (first | refine blk_drewN ?_ _ | refine blk_drew ?_ | refine blk_alloc ?_ _)); exact BK127.out⟩, ⟨by repeat (first | (with_reducible first | exact HB.out | apply below_alloc | apply pw_below_drewN | apply below_drew1 | refine below_set ?_ GE127.out) | exact HB.out)⟩⟩
       rw [if_neg c40] at H
       have c40b0 : (a0_4 == 0) = false := beq_eq_false_iff_ne.mpr c40
       have c40b1 : (a0_4 != 0) = true := bne_iff_ne.mpr c40
       (first | rw [c40b0] | (simp only [i64_w, i32_w]; rw [c40b0]) | skip)
       replace H := Option.bind_eq_some_iff.mp H
       obtain ⟨t135, A460, H⟩ := H
       replace H : (if t135 = true then ((lib_in.f kj27 1000 (([a0_8] : List Int))).bind fun t139 => (lib_CheckCell.j4 kj27 (!t139) a0_0 a0_1 a0_2 a0_3 a0_4 l0_5 l0_6 l0_7 a0_8 a0_9 a0_10)) else (lib_CheckCell.j4 kj27 true a0_0 a0_1 a0_2 a0_3 a0_4 l0_5 l0_6 l0_7 a0_8 a0_9 a0_10)) = some r := H
       have A46 := Aside0.mk A460
       clear A460
       by_cases c47 : t135 = true
       rotate_left
       · replace c47 := Bool.eq_false_iff.mpr c47
         subst c47
         have H1 : (lib_CheckCell.j4 kj27 true a0_0 a0_1 a0_2 a0_3 a0_4 l0_5 l0_6 l0_7 a0_8 a0_9 a0_10) = some r := by rw [if_neg (show ¬ (false = true) by decide)] at H; exact H
         clear H
         have H := H1
         clear H1
         have H' := Aside0.mk H
         clear H
         have hcz57_0 : wc.cell? ⟨gb127, 0, none⟩ = some (.string a0_0) := (blk_cell BK127.out 0).trans rfl
         have hcz57_1 : wc.cell? ⟨gb127, 1, none⟩ = some (.bool a0_1) := (blk_cell BK127.out 1).trans rfl
         have hcz57_2 : wc.cell? ⟨gb127, 2, none⟩ = some (.int .i64 a0_2) := (blk_cell BK127.out 2).trans rfl
         have hcz57_3 : wc.cell? ⟨gb127, 3, none⟩ = some (.int .u64 a0_3) := (blk_cell BK127.out 3).trans rfl
         have hcz57_4 : wc.cell? ⟨gb127, 4, none⟩ = some (.int .i64 a0_4) := (blk_cell BK127.out 4).trans rfl
         have hcz57_5 : wc.cell? ⟨gb127, 5, none⟩ = some (.slice A0_5 l0_5.length c0_5) := (blk_cell BK127.out 5).trans rfl
         have hcz57_6 : wc.cell? ⟨gb127, 6, none⟩ = some (.slice A0_6 l0_6.length c0_6) := (blk_cell BK127.out 6).trans rfl
         have hcz57_7 : wc.cell? ⟨gb127, 7, none⟩ = some (.slice A0_7 l0_7.length c0_7) := (blk_cell BK127.out 7).trans rfl
         have hcz57_8 : wc.cell? ⟨gb127, 8, none⟩ = some (.int .i64 a0_8) := (blk_cell BK127.out 8).trans rfl
         have hcz57_9 : wc.cell? ⟨gb127, 9, none⟩ = some (.int .i64 a0_9) := (blk_cell BK127.out 9).trans rfl
         have hcz57_10 : wc.cell? ⟨gb127, 10, none⟩ = some (.int .i64 a0_10) := (blk_cell BK127.out 10).trans rfl
         have hfz57_0 := blk_frozen BK127.out 0
         have hfz57_1 := blk_frozen BK127.out 1
         have hfz57_2 := blk_frozen BK127.out 2
         have hfz57_3 := blk_frozen BK127.out 3
         have hfz57_4 := blk_frozen BK127.out 4
         have hfz57_5 := blk_frozen BK127.out 5
         have hfz57_6 := blk_frozen BK127.out 6
         have hfz57_7 := blk_frozen BK127.out 7
         have hfz57_8 := blk_frozen BK127.out 8
         have hfz57_9 := blk_frozen BK127.out 9
         have hfz57_10 := blk_frozen BK127.out 10
         go_wp2_with (first | ((with_reducible refine gate_dst (N := 79) rfl ?_); (try (refine gate_guard (by rfl) ?_; dsimp only)); refine Kd.R_lit (Kd.int .i64) _ 3 ?hg (N := 79) ?hd (xs := ([a0_4] : List Int)) (inner := [.int .i64 a0_4]) (ok := fun _ => True) (okp := fun _ => True) ?hr ?hp (fun _ hk => hk) trivial (Below.refl _ _) (Nat.le_refl _) (by simp) ?_; (case hd => rfl); (case hg => rfl); (case hr => first | (go_simp; done) | (go_simp; rfl)); (case hp => exact (Reps.one (show Kd.M (Kd.int .i64) _ _ _ a0_4 [.int .i64 a0_4] from rfl) (Reps.none _ _))); intro v132 w58 ho59 hb hg_ hnew_; clear hg_ hnew_; (first | rw [← Ny131.out] at ho59 | (simp only [Int.reduceToNat] at ho59; rw [← Ny131.out] at ho59)); have n0_ := Aside0.mk (Kd.R_lower ho59 (below_size (by repeat (first | (with_reducible first | exact HB.out | apply below_alloc | apply pw_below_drewN | apply below_drew1 | refine below_set ?_ GE127.out) | exact HB.out)))); have n1_ := Aside0.mk (blk_below (g := gb127) (o := .cells #[.string a0_0, .bool a0_1, .int .i64 a0_2, .int .u64 a0_3, .int .i64 a0_4, .slice A0_5 l0_5.length c0_5, .slice A0_6 l0_6.length c0_6, .slice A0_7 l0_7.length c0_7, .int .i64 a0_8, .int .i64 a0_9, .int .i64 a0_10] 32 (0, 0)) (by (with_reducible repeat (first | refine blk_drewN ?_ _ | refine blk_drew ?_ | refine blk_alloc ?_ _)); exact BK127.out) hb); have n2_ := Aside0.mk (below_step (by repeat (first | (with_reducible first | exact HB.out | apply below_alloc | apply pw_below_drewN | apply below_drew1 | refine below_set ?_ GE127.out) | exact HB.out)) hb); clear BK127; clear HB; have HO133 := n0_; have BK127 := n1_; have HB := n2_; clear n0_ n1_ n2_; clear hb ho59; obtain ⟨Ao60, co60, eo60⟩ := Kd.R_slice HO133.out; subst eo60) | (go_at_call 53; (with_reducible refine (lib_in.calls kj27 64 _ _ y131 true _ ?side1 ?side2 A38.out).mono ?_); (case side1 => repeat (first | exact (Kd.R_reads' HO133.out).2.2 | (with_reducible refine Kd.C_alloc ?_ _) | (with_reducible refine Kd.C_drewN ?_ _) | (with_reducible refine Kd.C_drew ?_))); (case side2 => exact (Kd.R_reads' HO133.out).2.1); rintro e w' ⟨rfl, ⟨nd, rfl⟩⟩; (try first | exact ⟨rfl, _, World.drewN_drewN _ _ _⟩ | exact ⟨rfl, _, Eq.trans (World.drewN_drewN _ _ _) (congrArg (World.drewN _) (Nat.add_assoc _ _ _))⟩); have hcz61_0 : w58.cell? ⟨gb127, 0, none⟩ = some (.string a0_0) := (blk_cell BK127.out 0).trans rfl; have hcz61_1 : w58.cell? ⟨gb127, 1, none⟩ = some (.bool a0_1) := (blk_cell BK127.out 1).trans rfl; have hcz61_2 : w58.cell? ⟨gb127, 2, none⟩ = some (.int .i64 a0_2) := (blk_cell BK127.out 2).trans rfl; have hcz61_3 : w58.cell? ⟨gb127, 3, none⟩ = some (.int .u64 a0_3) := (blk_cell BK127.out 3).trans rfl; have hcz61_4 : w58.cell? ⟨gb127, 4, none⟩ = some (.int .i64 a0_4) := (blk_cell BK127.out 4).trans rfl; have hcz61_5 : w58.cell? ⟨gb127, 5, none⟩ = some (.slice A0_5 l0_5.length c0_5) := (blk_cell BK127.out 5).trans rfl; have hcz61_6 : w58.cell? ⟨gb127, 6, none⟩ = some (.slice A0_6 l0_6.length c0_6) := (blk_cell BK127.out 6).trans rfl; have hcz61_7 : w58.cell? ⟨gb127, 7, none⟩ = some (.slice A0_7 l0_7.length c0_7) := (blk_cell BK127.out 7).trans rfl; have hcz61_8 : w58.cell? ⟨gb127, 8, none⟩ = some (.int .i64 a0_8) := (blk_cell BK127.out 8).trans rfl; have hcz61_9 : w58.cell? ⟨gb127, 9, none⟩ = some (.int .i64 a0_9) := (blk_cell BK127.out 9).trans rfl; have hcz61_10 : w58.cell? ⟨gb127, 10, none⟩ = some (.int .i64 a0_10) := (blk_cell BK127.out 10).trans rfl; have hfz61_0 := blk_frozen BK127.out 0; have hfz61_1 := blk_frozen BK127.out 1; have hfz61_2 := blk_frozen BK127.out 2; have hfz61_3 := blk_frozen BK127.out 3; have hfz61_4 := blk_frozen BK127.out 4; have hfz61_5 := blk_frozen BK127.out 5; have hfz61_6 := blk_frozen BK127.out 6; have hfz61_7 := blk_frozen BK127.out 7; have hfz61_8 := blk_frozen BK127.out 8; have hfz61_9 := blk_frozen BK127.out 9; have hfz61_10 := blk_frozen BK127.out 10) | (go_at_call 53; (with_reducible refine (lib_in.calls kj27 1000 _ _ l0_5 false _ ?side1 ?side2 A46.out).mono ?_); (case side1 => repeat (first | exact (Kd.C_below HR0_5.out (by repeat (first | (with_reducible first | exact HB.out | apply below_alloc | apply pw_below_drewN | apply below_drew1 | refine below_set ?_ GE127.out) | exact HB.out))) | (with_reducible refine Kd.C_alloc ?_ _) | (with_reducible refine Kd.C_drewN ?_ _) | (with_reducible refine Kd.C_drew ?_))); (case side2 => exact HC0_5.out); rintro e w' ⟨rfl, ⟨nd, rfl⟩⟩; (try first | exact ⟨rfl, _, World.drewN_drewN _ _ _⟩ | exact ⟨rfl, _, Eq.trans (World.drewN_drewN _ _ _) (congrArg (World.drewN _) (Nat.add_assoc _ _ _))⟩)))
         repeat (go_quiet (fail); try go_wp2_with fail)
         go_meet
         case rel => exact ⟨_, (true), (by first | rfl | (simp; done) | (simp [*]; done)), H', ⟨by have := HJ3.out; have := HJ11.out; have := HJ20.out; have := HJ27.out; first | omega | exact Nat.le_refl _⟩, ⟨by (with_reducible repeat (first | refine blk_drewN ?_ _ | refine blk_drew ?_ | refine blk_alloc ?_ _)); exact BK127.out⟩, ⟨by repeat (first | (with_reducible first | exact HB.out | apply below_alloc | apply pw_below_drewN | apply below_drew1 | refine below_set ?_ GE127.out) | exact HB.out)⟩⟩
       subst c47
       have H1 : ((lib_in.f kj27 1000 (([a0_8] : List Int))).bind fun t139 => (lib_CheckCell.j4 kj27 (!t139) a0_0 a0_1 a0_2 a0_3 a0_4 l0_5 l0_6 l0_7 a0_8 a0_9 a0_10)) = some r := by rw [if_pos rfl] at H; exact H
       clear H
       have H := H1
       clear H1
       obtain ⟨y136, hy136⟩ : ∃ y_ : List Int, y_ = (([a0_8] : List Int)) := ⟨_, rfl⟩
       replace H : ((lib_in.f kj27 1000 y136).bind fun t139 => (lib_CheckCell.j4 kj27 (!t139) a0_0 a0_1 a0_2 a0_3 a0_4 l0_5 l0_6 l0_7 a0_8 a0_9 a0_10)) = some r := by first | (rw [hy136]; with_reducible exact H) | (have H2_ := (Option.bind_some _ _).symm.trans H; rw [hy136]; with_reducible exact H2_) | (have H2_ := (Option.bind_some _ _).symm.trans H; with_reducible exact H2_) | with_reducible exact H | (rw [hy136]; exact H) | exact H
       have Ny136 := Aside0.mk hy136
       clear hy136
       replace H := Option.bind_eq_some_iff.mp H
       obtain ⟨t139, A480, H⟩ := H
       replace H : (lib_CheckCell.j4 kj27 (!t139) a0_0 a0_1 a0_2 a0_3 a0_4 l0_5 l0_6 l0_7 a0_8 a0_9 a0_10) = some r := H
       have A48 := Aside0.mk A480
       clear A480
       have H' := Aside0.mk H
       clear H
       have hcz49_0 : wc.cell? ⟨gb127, 0, none⟩ = some (.string a0_0) := (blk_cell BK127.out 0).trans rfl
       have hcz49_1 : wc.cell? ⟨gb127, 1, none⟩ = some (.bool a0_1) := (blk_cell BK127.out 1).trans rfl
       have hcz49_2 : wc.cell? ⟨gb127, 2, none⟩ = some (.int .i64 a0_2) := (blk_cell BK127.out 2).trans rfl
       have hcz49_3 : wc.cell? ⟨gb127, 3, none⟩ = some (.int .u64 a0_3) := (blk_cell BK127.out 3).trans rfl
       have hcz49_4 : wc.cell? ⟨gb127, 4, none⟩ = some (.int .i64 a0_4) := (blk_cell BK127.out 4).trans rfl
       have hcz49_5 : wc.cell? ⟨gb127, 5, none⟩ = some (.slice A0_5 l0_5.length c0_5) := (blk_cell BK127.out 5).trans rfl
       have hcz49_6 : wc.cell? ⟨gb127, 6, none⟩ = some (.slice A0_6 l0_6.length c0_6) := (blk_cell BK127.out 6).trans rfl
       have hcz49_7 : wc.cell? ⟨gb127, 7, none⟩ = some (.slice A0_7 l0_7.length c0_7) := (blk_cell BK127.out 7).trans rfl
       have hcz49_8 : wc.cell? ⟨gb127, 8, none⟩ = some (.int .i64 a0_8) := (blk_cell BK127.out 8).trans rfl
       have hcz49_9 : wc.cell? ⟨gb127, 9, none⟩ = some (.int .i64 a0_9) := (blk_cell BK127.out 9).trans rfl
       have hcz49_10 : wc.cell? ⟨gb127, 10, none⟩ = some (.int .i64 a0_10) := (blk_cell BK127.out 10).trans rfl
       have hfz49_0 := blk_frozen BK127.out 0
       have hfz49_1 := blk_frozen BK127.out 1
       have hfz49_2 := blk_frozen BK127.out 2
       have hfz49_3 := blk_frozen BK127.out 3
       have hfz49_4 := blk_frozen BK127.out 4
       have hfz49_5 := blk_frozen BK127.out 5
       have hfz49_6 := blk_frozen BK127.out 6
       have hfz49_7 := blk_frozen BK127.out 7
       have hfz49_8 := blk_frozen BK127.out 8
       have hfz49_9 := blk_frozen BK127.out 9
       have hfz49_10 := blk_frozen BK127.out 10
       go_wp2_with (first | ((with_reducible refine gate_dst (N := 79) rfl ?_); (try (refine gate_guard (by rfl) ?_; dsimp only)); refine Kd.R_lit (Kd.int .i64) _ 3 ?hg (N := 79) ?hd (xs := ([a0_4] : List Int)) (inner := [.int .i64 a0_4]) (ok := fun _ => True) (okp := fun _ => True) ?hr ?hp (fun _ hk => hk) trivial (Below.refl _ _) (Nat.le_refl _) (by simp) ?_; (case hd => rfl); (case hg => rfl); (case hr => first | (go_simp; done) | (go_simp; rfl)); (case hp => exact (Reps.one (show Kd.M (Kd.int .i64) _ _ _ a0_4 [.int .i64 a0_4] from rfl) (Reps.none _ _))); intro v132 w50 ho51 hb hg_ hnew_; clear hg_ hnew_; (first | rw [← Ny131.out] at ho51 | (simp only [Int.reduceToNat] at ho51; rw [← Ny131.out] at ho51)); have n0_ := Aside0.mk (Kd.R_lower ho51 (below_size (by repeat (first | (with_reducible first | exact HB.out | apply below_alloc | apply pw_below_drewN | apply below_drew1 | refine below_set ?_ GE127.out) | exact HB.out)))); have n1_ := Aside0.mk (blk_below (g := gb127) (o := .cells #[.string a0_0, .bool a0_1, .int .i64 a0_2, .int .u64 a0_3, .int .i64 a0_4, .slice A0_5 l0_5.length c0_5, .slice A0_6 l0_6.length c0_6, .slice A0_7 l0_7.length c0_7, .int .i64 a0_8, .int .i64 a0_9, .int .i64 a0_10] 32 (0, 0)) (by (with_reducible repeat (first | refine blk_drewN ?_ _ | refine blk_drew ?_ | refine blk_alloc ?_ _)); exact BK127.out) hb); have n2_ := Aside0.mk (below_step (by repeat (first | (with_reducible first | exact HB.out | apply below_alloc | apply pw_below_drewN | apply below_drew1 | refine below_set ?_ GE127.out) | exact HB.out)) hb); clear BK127; clear HB; have HO133 := n0_; have BK127 := n1_; have HB := n2_; clear n0_ n1_ n2_; clear hb ho51; obtain ⟨Ao52, co52, eo52⟩ := Kd.R_slice HO133.out; subst eo52) | (go_at_call 53; (with_reducible refine (lib_in.calls kj27 64 _ _ y131 true _ ?side1 ?side2 A38.out).mono ?_); (case side1 => repeat (first | exact (Kd.R_reads' HO133.out).2.2 | (with_reducible refine Kd.C_alloc ?_ _) | (with_reducible refine Kd.C_drewN ?_ _) | (with_reducible refine Kd.C_drew ?_))); (case side2 => exact (Kd.R_reads' HO133.out).2.1); rintro e w' ⟨rfl, ⟨nd, rfl⟩⟩; (try first | exact ⟨rfl, _, World.drewN_drewN _ _ _⟩ | exact ⟨rfl, _, Eq.trans (World.drewN_drewN _ _ _) (congrArg (World.drewN _) (Nat.add_assoc _ _ _))⟩); have hcz53_0 : w50.cell? ⟨gb127, 0, none⟩ = some (.string a0_0) := (blk_cell BK127.out 0).trans rfl; have hcz53_1 : w50.cell? ⟨gb127, 1, none⟩ = some (.bool a0_1) := (blk_cell BK127.out 1).trans rfl; have hcz53_2 : w50.cell? ⟨gb127, 2, none⟩ = some (.int .i64 a0_2) := (blk_cell BK127.out 2).trans rfl; have hcz53_3 : w50.cell? ⟨gb127, 3, none⟩ = some (.int .u64 a0_3) := (blk_cell BK127.out 3).trans rfl; have hcz53_4 : w50.cell? ⟨gb127, 4, none⟩ = some (.int .i64 a0_4) := (blk_cell BK127.out 4).trans rfl; have hcz53_5 : w50.cell? ⟨gb127, 5, none⟩ = some (.slice A0_5 l0_5.length c0_5) := (blk_cell BK127.out 5).trans rfl; have hcz53_6 : w50.cell? ⟨gb127, 6, none⟩ = some (.slice A0_6 l0_6.length c0_6) := (blk_cell BK127.out 6).trans rfl; have hcz53_7 : w50.cell? ⟨gb127, 7, none⟩ = some (.slice A0_7 l0_7.length c0_7) := (blk_cell BK127.out 7).trans rfl; have hcz53_8 : w50.cell? ⟨gb127, 8, none⟩ = some (.int .i64 a0_8) := (blk_cell BK127.out 8).trans rfl; have hcz53_9 : w50.cell? ⟨gb127, 9, none⟩ = some (.int .i64 a0_9) := (blk_cell BK127.out 9).trans rfl; have hcz53_10 : w50.cell? ⟨gb127, 10, none⟩ = some (.int .i64 a0_10) := (blk_cell BK127.out 10).trans rfl; have hfz53_0 := blk_frozen BK127.out 0; have hfz53_1 := blk_frozen BK127.out 1; have hfz53_2 := blk_frozen BK127.out 2; have hfz53_3 := blk_frozen BK127.out 3; have hfz53_4 := blk_frozen BK127.out 4; have hfz53_5 := blk_frozen BK127.out 5; have hfz53_6 := blk_frozen BK127.out 6; have hfz53_7 := blk_frozen BK127.out 7; have hfz53_8 := blk_frozen BK127.out 8; have hfz53_9 := blk_frozen BK127.out 9; have hfz53_10 := blk_frozen BK127.out 10) | (go_at_call 53; (with_reducible refine (lib_in.calls kj27 1000 _ _ l0_5 true _ ?side1 ?side2 A46.out).mono ?_); (case side1 => repeat (first | exact (Kd.C_below HR0_5.out (by repeat (first | (with_reducible first | exact HB.out | apply below_alloc | apply pw_below_drewN | apply below_drew1 | refine below_set ?_ GE127.out) | exact HB.out))) | (with_reducible refine Kd.C_alloc ?_ _) | (with_reducible refine Kd.C_drewN ?_ _) | (with_reducible refine Kd.C_drew ?_))); (case side2 => exact HC0_5.out); rintro e w' ⟨rfl, ⟨nd, rfl⟩⟩; (try first | exact ⟨rfl, _, World.drewN_drewN _ _ _⟩ | exact ⟨rfl, _, Eq.trans (World.drewN_drewN _ _ _) (congrArg (World.drewN _) (Nat.add_assoc _ _ _))⟩)) | ((with_reducible refine gate_dst (N := 96) rfl ?_); (try (refine gate_guard (by rfl) ?_; dsimp only)); refine Kd.R_lit (Kd.int .i64) _ 3 ?hg (N := 96) ?hd (xs := ([a0_8] : List Int)) (inner := [.int .i64 a0_8]) (ok := fun _ => True) (okp := fun _ => True) ?hr ?hp (fun _ hk => hk) trivial (Below.refl _ _) (Nat.le_refl _) (by simp) ?_; (case hd => rfl); (case hg => rfl); (case hr => first | (go_simp; done) | (go_simp; rfl)); (case hp => exact (Reps.one (show Kd.M (Kd.int .i64) _ _ _ a0_8 [.int .i64 a0_8] from rfl) (Reps.none _ _))); intro v137 w54 ho55 hb hg_ hnew_; clear hg_ hnew_; (first | rw [← Ny136.out] at ho55 | (simp only [Int.reduceToNat] at ho55; rw [← Ny136.out] at ho55)); have n0_ := Aside0.mk (Kd.R_elder' (by (with_reducible repeat (first | apply Kd.R_alloc | apply Kd.R_drewN | apply Kd.R_drew)); exact HO133.out) (Kd.R_base ho55) hb); have n1_ := Aside0.mk (Kd.R_lower (Kd.R_new' ho55 (Kd.R_lt (by (with_reducible repeat (first | apply Kd.R_alloc | apply Kd.R_drewN | apply Kd.R_drew)); exact HO133.out))) (below_size (by repeat (first | (with_reducible first | exact HB.out | apply below_alloc | apply pw_below_drewN | apply below_drew1 | refine below_set ?_ GE127.out) | exact HB.out)))); have n2_ := Aside0.mk (blk_below (g := gb127) (o := .cells #[.string a0_0, .bool a0_1, .int .i64 a0_2, .int .u64 a0_3, .int .i64 a0_4, .slice A0_5 l0_5.length c0_5, .slice A0_6 l0_6.length c0_6, .slice A0_7 l0_7.length c0_7, .int .i64 a0_8, .int .i64 a0_9, .int .i64 a0_10] 32 (0, 0)) (by (with_reducible repeat (first | refine blk_drewN ?_ _ | refine blk_drew ?_ | refine blk_alloc ?_ _)); exact BK127.out) hb); have n3_ := Aside0.mk (below_step (by repeat (first | (with_reducible first | exact HB.out | apply below_alloc | apply pw_below_drewN | apply below_drew1 | refine below_set ?_ GE127.out) | exact HB.out)) hb); clear HO133; clear BK127; clear HB; have HO133 := n0_; have HO138 := n1_; have BK127 := n2_; have HB := n3_; clear n0_ n1_ n2_ n3_; clear hb ho55; obtain ⟨Ao56, co56, eo56⟩ := Kd.R_slice HO138.out; subst eo56) | (go_at_call 53; (with_reducible refine (lib_in.calls kj27 1000 _ _ y136 t139 _ ?side1 ?side2 A48.out).mono ?_); (case side1 => repeat (first | exact (Kd.R_reads' HO138.out).2.2 | (with_reducible refine Kd.C_alloc ?_ _) | (with_reducible refine Kd.C_drewN ?_ _) | (with_reducible refine Kd.C_drew ?_))); (case side2 => exact (Kd.R_reads' HO138.out).2.1); rintro e w' ⟨rfl, ⟨nd, rfl⟩⟩; (try first | exact ⟨rfl, _, World.drewN_drewN _ _ _⟩ | exact ⟨rfl, _, Eq.trans (World.drewN_drewN _ _ _) (congrArg (World.drewN _) (Nat.add_assoc _ _ _))⟩)))
       repeat (go_quiet (fail); try go_wp2_with fail)
       go_meet
       case rel => exact ⟨_, (!t139), (by first | rfl | (simp; done) | (simp [*]; done)), H', ⟨by have := HJ3.out; have := HJ11.out; have := HJ20.out; have := HJ27.out; first | omega | exact Nat.le_refl _⟩, ⟨by (with_reducible repeat (first | refine blk_drewN ?_ _ | refine blk_drew ?_ | refine blk_alloc ?_ _)); exact BK127.out⟩, ⟨by repeat (first | (with_reducible first | exact HB.out | apply below_alloc | apply pw_below_drewN | apply below_drew1 | refine below_set ?_ GE127.out) | exact HB.out)⟩⟩
      clear HC37
      obtain ⟨kq, x76_36, rfl, HA, HJ36, BK127, HB⟩ := hcut
      cases kq with
      | zero => exact absurd HA.out (by simp [lib_CheckCell.j4])
      | succ kj36 =>
       have H := HA.out
       clear HA
       simp only [lib_CheckCell.j4] at H
       by_cases c66 : x76_36 = true
       · subst c66
         have H1 : (some 2) = some r := by rw [if_pos rfl] at H; exact H
         clear H
         have H := H1
         clear H1
         obtain rfl := Option.some.inj H
         go_wp2
         repeat (go_quiet (fail); try go_wp2)
         go_ret
         exact ⟨by first | rfl | (simp [errW_none, errW_some] <;> rfl) | (simp [*, errW_none, errW_some] <;> rfl), by repeat (first | (with_reducible first | exact HB.out | apply below_alloc | apply pw_below_drewN | apply below_drew1 | refine below_set ?_ GE127.out) | exact HB.out)⟩
       replace c66 := Bool.eq_false_iff.mpr c66
       subst c66
       have H1 : ((lib_in.f kj36 10000 l0_6).bind fun t140 => (if t140 = true then ((lib_in.f kj36 10000 l0_7).bind fun t141 => (if t141 = true then ((lib_in.f kj36 10000 (([a0_9, a0_10] : List Int))).bind fun t145 => (lib_CheckCell.j5 kj36 (!t145) a0_0 a0_1 a0_2 a0_3 a0_4 l0_5 l0_6 l0_7 a0_8 a0_9 a0_10)) else (lib_CheckCell.j5 kj36 true a0_0 a0_1 a0_2 a0_3 a0_4 l0_5 l0_6 l0_7 a0_8 a0_9 a0_10))) else (lib_CheckCell.j5 kj36 true a0_0 a0_1 a0_2 a0_3 a0_4 l0_5 l0_6 l0_7 a0_8 a0_9 a0_10))) = some r := by rw [if_neg (show ¬ (false = true) by decide)] at H; exact H
       clear H
       have H := H1
       clear H1
       have HC67 := Aside0.mk H
       clear H
       go_upto_region 14 with (fail)
       repeat (go_quiet (fail); go_upto_region 14 with (fail))
       go_cut [100] (fun v100 wc => ∃ (kq : Nat) (x100_66 : Bool), v100 = .bool x100_66 ∧ Aside0 (lib_CheckCell.j5 kq x100_66 a0_0 a0_1 a0_2 a0_3 a0_4 l0_5 l0_6 l0_7 a0_8 a0_9 a0_10 = some r) ∧ Aside0 (kq ≤ kj36) ∧ Aside0 (wc.heap[gb127]? = some (.cells #[.string a0_0, .bool a0_1, .int .i64 a0_2, .int .u64 a0_3, .int .i64 a0_4, (.slice A0_5 l0_5.length c0_5), (.slice A0_6 l0_6.length c0_6), (.slice A0_7 l0_7.length c0_7), .int .i64 a0_8, .int .i64 a0_9, .int .i64 a0_10] 32 (0, 0))) ∧ Aside0 (Below w.heap.size w wc))
       case first =>
        have H := HC67.out
        clear HC67
        replace H := Option.bind_eq_some_iff.mp H
        obtain ⟨t140, A680, H⟩ := H
        replace H : (if t140 = true then ((lib_in.f kj36 10000 l0_7).bind fun t141 => (if t141 = true then ((lib_in.f kj36 10000 (([a0_9, a0_10] : List Int))).bind fun t145 => (lib_CheckCell.j5 kj36 (!t145) a0_0 a0_1 a0_2 a0_3 a0_4 l0_5 l0_6 l0_7 a0_8 a0_9 a0_10)) else (lib_CheckCell.j5 kj36 true a0_0 a0_1 a0_2 a0_3 a0_4 l0_5 l0_6 l0_7 a0_8 a0_9 a0_10))) else (lib_CheckCell.j5 kj36 true a0_0 a0_1 a0_2 a0_3 a0_4 l0_5 l0_6 l0_7 a0_8 a0_9 a0_10)) = some r := H
        have A68 := Aside0.mk A680
        clear A680
        by_cases c69 : t140 = true
        rotate_left
        · replace c69 := Bool.eq_false_iff.mpr c69
          subst c69
          have H1 : (lib_CheckCell.j5 kj36 true a0_0 a0_1 a0_2 a0_3 a0_4 l0_5 l0_6 l0_7 a0_8 a0_9 a0_10) = some r := by rw [if_neg (show ¬ (false = true) by decide)] at H; exact H
          clear H
          have H := H1
          clear H1
          have H' := Aside0.mk H
          clear H
          have hcz78_0 : wc.cell? ⟨gb127, 0, none⟩ = some (.string a0_0) := (blk_cell BK127.out 0).trans rfl
          have hcz78_1 : wc.cell? ⟨gb127, 1, none⟩ = some (.bool a0_1) := (blk_cell BK127.out 1).trans rfl
          have hcz78_2 : wc.cell? ⟨gb127, 2, none⟩ = some (.int .i64 a0_2) := (blk_cell BK127.out 2).trans rfl
          have hcz78_3 : wc.cell? ⟨gb127, 3, none⟩ = some (.int .u64 a0_3) := (blk_cell BK127.out 3).trans rfl
          have hcz78_4 : wc.cell? ⟨gb127, 4, none⟩ = some (.int .i64 a0_4) := (blk_cell BK127.out 4).trans rfl
          have hcz78_5 : wc.cell? ⟨gb127, 5, none⟩ = some (.slice A0_5 l0_5.length c0_5) := (blk_cell BK127.out 5).trans rfl
          have hcz78_6 : wc.cell? ⟨gb127, 6, none⟩ = some (.slice A0_6 l0_6.length c0_6) := (blk_cell BK127.out 6).trans rfl
          have hcz78_7 : wc.cell? ⟨gb127, 7, none⟩ = some (.slice A0_7 l0_7.length c0_7) := (blk_cell BK127.out 7).trans rfl
          have hcz78_8 : wc.cell? ⟨gb127, 8, none⟩ = some (.int .i64 a0_8) := (blk_cell BK127.out 8).trans rfl
          have hcz78_9 : wc.cell? ⟨gb127, 9, none⟩ = some (.int .i64 a0_9) := (blk_cell BK127.out 9).trans rfl
          have hcz78_10 : wc.cell? ⟨gb127, 10, none⟩ = some (.int .i64 a0_10) := (blk_cell BK127.out 10).trans rfl
          have hfz78_0 := blk_frozen BK127.out 0
          have hfz78_1 := blk_frozen BK127.out 1
          have hfz78_2 := blk_frozen BK127.out 2
          have hfz78_3 := blk_frozen BK127.out 3
          have hfz78_4 := blk_frozen BK127.out 4
          have hfz78_5 := blk_frozen BK127.out 5
          have hfz78_6 := blk_frozen BK127.out 6
          have hfz78_7 := blk_frozen BK127.out 7
          have hfz78_8 := blk_frozen BK127.out 8
          have hfz78_9 := blk_frozen BK127.out 9
          have hfz78_10 := blk_frozen BK127.out 10
          go_wp2_with (go_at_call 53; (with_reducible refine (lib_in.calls kj36 10000 _ _ l0_6 false _ ?side1 ?side2 A68.out).mono ?_); (case side1 => repeat (first | exact (Kd.C_below HR0_6.out HB.out) | (with_reducible refine Kd.C_alloc ?_ _) | (with_reducible refine Kd.C_drewN ?_ _) | (with_reducible refine Kd.C_drew ?_))); (case side2 => exact HC0_6.out); rintro e w' ⟨rfl, ⟨nd, rfl⟩⟩; (try first | exact ⟨rfl, _, World.drewN_drewN _ _ _⟩ | exact ⟨rfl, _, Eq.trans (World.drewN_drewN _ _ _) (congrArg (World.drewN _) (Nat.add_assoc _ _ _))⟩))
          repeat (go_quiet (fail); try go_wp2_with fail)
          go_meet
          case rel => exact ⟨_, (true), (by first | rfl | (simp; done) | (simp [*]; done)), H', ⟨by have := HJ3.out; have := HJ11.out; have := HJ20.out; have := HJ27.out; have := HJ36.out; first | omega | exact Nat.le_refl _⟩, ⟨by (with_reducible repeat (first | refine blk_drewN ?_ _ | refine blk_drew ?_ | refine blk_alloc ?_ _)); exact BK127.out⟩, ⟨by repeat (first | (with_reducible first | exact HB.out | apply below_alloc | apply pw_below_drewN | apply below_drew1 | refine below_set ?_ GE127.out) | exact HB.out)⟩⟩
        subst c69
        have H1 : ((lib_in.f kj36 10000 l0_7).bind fun t141 => (if t141 = true then ((lib_in.f kj36 10000 (([a0_9, a0_10] : List Int))).bind fun t145 => (lib_CheckCell.j5 kj36 (!t145) a0_0 a0_1 a0_2 a0_3 a0_4 l0_5 l0_6 l0_7 a0_8 a0_9 a0_10)) else (lib_CheckCell.j5 kj36 true a0_0 a0_1 a0_2 a0_3 a0_4 l0_5 l0_6 l0_7 a0_8 a0_9 a0_10))) = some r := by rw [if_pos rfl] at H; exact H
        clear H
        have H := H1
        clear H1
        replace H := Option.bind_eq_some_iff.mp H
        obtain ⟨t141, A700, H⟩ := H
        replace H : (if t141 = true then ((lib_in.f kj36 10000 (([a0_9, a0_10] : List Int))).bind fun t145 => (lib_CheckCell.j5 kj36 (!t145) a0_0 a0_1 a0_2 a0_3 a0_4 l0_5 l0_6 l0_7 a0_8 a0_9 a0_10)) else (lib_CheckCell.j5 kj36 true a0_0 a0_1 a0_2 a0_3 a0_4 l0_5 l0_6 l0_7 a0_8 a0_9 a0_10)) = some r := H
        have A70 := Aside0.mk A700
        clear A700
        by_cases c71 : t141 = true
        rotate_left
        · replace c71 := Bool.eq_false_iff.mpr c71
          subst c71
          have H1 : (lib_CheckCell.j5 kj36 true a0_0 a0_1 a0_2 a0_3 a0_4 l0_5 l0_6 l0_7 a0_8 a0_9 a0_10) = some r := by rw [if_neg (show ¬ (false = true) by decide)] at H; exact H
          clear H
          have H := H1
          clear H1
          have H' := Aside0.mk H
          clear H
          have hcz77_0 : wc.cell? ⟨gb127, 0, none⟩ = some (.string a0_0) := (blk_cell BK127.out 0).trans rfl
          have hcz77_1 : wc.cell? ⟨gb127, 1, none⟩ = some (.bool a0_1) := (blk_cell BK127.out 1).trans rfl
          have hcz77_2 : wc.cell? ⟨gb127, 2, none⟩ = some (.int .i64 a0_2) := (blk_cell BK127.out 2).trans rfl
          have hcz77_3 : wc.cell? ⟨gb127, 3, none⟩ = some (.int .u64 a0_3) := (blk_cell BK127.out 3).trans rfl
          have hcz77_4 : wc.cell? ⟨gb127, 4, none⟩ = some (.int .i64 a0_4) := (blk_cell BK127.out 4).trans rfl
          have hcz77_5 : wc.cell? ⟨gb127, 5, none⟩ = some (.slice A0_5 l0_5.length c0_5) := (blk_cell BK127.out 5).trans rfl
          have hcz77_6 : wc.cell? ⟨gb127, 6, none⟩ = some (.slice A0_6 l0_6.length c0_6) := (blk_cell BK127.out 6).trans rfl
          have hcz77_7 : wc.cell? ⟨gb127, 7, none⟩ = some (.slice A0_7 l0_7.length c0_7) := (blk_cell BK127.out 7).trans rfl
          have hcz77_8 : wc.cell? ⟨gb127, 8, none⟩ = some (.int .i64 a0_8) := (blk_cell BK127.out 8).trans rfl
          have hcz77_9 : wc.cell? ⟨gb127, 9, none⟩ = some (.int .i64 a0_9) := (blk_cell BK127.out 9).trans rfl
          have hcz77_10 : wc.cell? ⟨gb127, 10, none⟩ = some (.int .i64 a0_10) := (blk_cell BK127.out 10).trans rfl
          have hfz77_0 := blk_frozen BK127.out 0
          have hfz77_1 := blk_frozen BK127.out 1
          have hfz77_2 := blk_frozen BK127.out 2
          have hfz77_3 := blk_frozen BK127.out 3
          have hfz77_4 := blk_frozen BK127.out 4
          have hfz77_5 := blk_frozen BK127.out 5
          have hfz77_6 := blk_frozen BK127.out 6
          have hfz77_7 := blk_frozen BK127.out 7
          have hfz77_8 := blk_frozen BK127.out 8
          have hfz77_9 := blk_frozen BK127.out 9
          have hfz77_10 := blk_frozen BK127.out 10
          go_wp2_with (first | (go_at_call 53; (with_reducible refine (lib_in.calls kj36 10000 _ _ l0_6 true _ ?side1 ?side2 A68.out).mono ?_); (case side1 => repeat (first | exact (Kd.C_below HR0_6.out HB.out) | (with_reducible refine Kd.C_alloc ?_ _) | (with_reducible refine Kd.C_drewN ?_ _) | (with_reducible refine Kd.C_drew ?_))); (case side2 => exact HC0_6.out); rintro e w' ⟨rfl, ⟨nd, rfl⟩⟩; (try first | exact ⟨rfl, _, World.drewN_drewN _ _ _⟩ | exact ⟨rfl, _, Eq.trans (World.drewN_drewN _ _ _) (congrArg (World.drewN _) (Nat.add_assoc _ _ _))⟩)) | (go_at_call 53; (with_reducible refine (lib_in.calls kj36 10000 _ _ l0_7 false _ ?side1 ?side2 A70.out).mono ?_); (case side1 => repeat (first | exact (Kd.C_below HR0_7.out (by repeat (first | (with_reducible first | exact HB.out | apply below_alloc | apply pw_below_drewN | apply below_drew1 | refine below_set ?_ GE127.out) | exact HB.out))) | (with_reducible refine Kd.C_alloc ?_ _) | (with_reducible refine Kd.C_drewN ?_ _) | (with_reducible refine Kd.C_drew ?_))); (case side2 => exact HC0_7.out); rintro e w' ⟨rfl, ⟨nd, rfl⟩⟩; (try first | exact ⟨rfl, _, World.drewN_drewN _ _ _⟩ | exact ⟨rfl, _, Eq.trans (World.drewN_drewN _ _ _) (congrArg (World.drewN _) (Nat.add_assoc _ _ _))⟩)))
          repeat (go_quiet (fail); try go_wp2_with fail)
          go_meet
          case rel => exact ⟨_, (true), (by first | rfl | (simp; done) | (simp [*]; done)), H', ⟨by have := HJ3.out; have := HJ11.out; have := HJ20.out; have := HJ27.out; have := HJ36.out; first | omega | exact Nat.le_refl _⟩, ⟨by (with_reducible repeat (first | refine blk_drewN ?_ _ | refine blk_drew ?_ | refine blk_alloc ?_ _)); exact BK127.out⟩, ⟨by repeat (first | (with_reducible first | exact HB.out | apply below_alloc | apply pw_below_drewN | apply below_drew1 | refine below_set ?_ GE127.out) | exact HB.out)⟩⟩
        subst c71
        have H1 : ((lib_in.f kj36 10000 (([a0_9, a0_10] : List Int))).bind fun t145 => (lib_CheckCell.j5 kj36 (!t145) a0_0 a0_1 a0_2 a0_3 a0_4 l0_5 l0_6 l0_7 a0_8 a0_9 a0_10)) = some r := by rw [if_pos rfl] at H; exact H
        clear H
        have H := H1
        clear H1
        obtain ⟨y142, hy142⟩ : ∃ y_ : List Int, y_ = (([a0_9, a0_10] : List Int)) := ⟨_, rfl⟩
        replace H : ((lib_in.f kj36 10000 y142).bind fun t145 => (lib_CheckCell.j5 kj36 (!t145) a0_0 a0_1 a0_2 a0_3 a0_4 l0_5 l0_6 l0_7 a0_8 a0_9 a0_10)) = some r := by first | (rw [hy142]; with_reducible exact H) | (have H2_ := (Option.bind_some _ _).symm.trans H; rw [hy142]; with_reducible exact H2_) | (have H2_ := (Option.bind_some _ _).symm.trans H; with_reducible exact H2_) | with_reducible exact H | (rw [hy142]; exact H) | exact H
        have Ny142 := Aside0.mk hy142
        clear hy142
        replace H := Option.bind_eq_some_iff.mp H
        obtain ⟨t145, A720, H⟩ := H
        replace H : (lib_CheckCell.j5 kj36 (!t145) a0_0 a0_1 a0_2 a0_3 a0_4 l0_5 l0_6 l0_7 a0_8 a0_9 a0_10) = some r := H
        have A72 := Aside0.mk A720
        clear A720
        have H' := Aside0.mk H
        clear H
        have hcz73_0 : wc.cell? ⟨gb127, 0, none⟩ = some (.string a0_0) := (blk_cell BK127.out 0).trans rfl
        have hcz73_1 : wc.cell? ⟨gb127, 1, none⟩ = some (.bool a0_1) := (blk_cell BK127.out 1).trans rfl
        have hcz73_2 : wc.cell? ⟨gb127, 2, none⟩ = some (.int .i64 a0_2) := (blk_cell BK127.out 2).trans rfl
        have hcz73_3 : wc.cell? ⟨gb127, 3, none⟩ = some (.int .u64 a0_3) := (blk_cell BK127.out 3).trans rfl
        have hcz73_4 : wc.cell? ⟨gb127, 4, none⟩ = some (.int .i64 a0_4) := (blk_cell BK127.out 4).trans rfl
        have hcz73_5 : wc.cell? ⟨gb127, 5, none⟩ = some (.slice A0_5 l0_5.length c0_5) := (blk_cell BK127.out 5).trans rfl
        have hcz73_6 : wc.cell? ⟨gb127, 6, none⟩ = some (.slice A0_6 l0_6.length c0_6) := (blk_cell BK127.out 6).trans rfl
        have hcz73_7 : wc.cell? ⟨gb127, 7, none⟩ = some (.slice A0_7 l0_7.length c0_7) := (blk_cell BK127.out 7).trans rfl
        have hcz73_8 : wc.cell? ⟨gb127, 8, none⟩ = some (.int .i64 a0_8) := (blk_cell BK127.out 8).trans rfl
        have hcz73_9 : wc.cell? ⟨gb127, 9, none⟩ = some (.int .i64 a0_9) := (blk_cell BK127.out 9).trans rfl
        have hcz73_10 : wc.cell? ⟨gb127, 10, none⟩ = some (.int .i64 a0_10) := (blk_cell BK127.out 10).trans rfl
        have hfz73_0 := blk_frozen BK127.out 0
        have hfz73_1 := blk_frozen BK127.out 1
        have hfz73_2 := blk_frozen BK127.out 2
        have hfz73_3 := blk_frozen BK127.out 3
        have hfz73_4 := blk_frozen BK127.out 4
        have hfz73_5 := blk_frozen BK127.out 5
        have hfz73_6 := blk_frozen BK127.out 6
        have hfz73_7 := blk_frozen BK127.out 7
        have hfz73_8 := blk_frozen BK127.out 8
        have hfz73_9 := blk_frozen BK127.out 9
        have hfz73_10 := blk_frozen BK127.out 10
        go_wp2_with (first | (go_at_call 53; (with_reducible refine (lib_in.calls kj36 10000 _ _ l0_6 true _ ?side1 ?side2 A68.out).mono ?_); (case side1 => repeat (first | exact (Kd.C_below HR0_6.out HB.out) | (with_reducible refine Kd.C_alloc ?_ _) | (with_reducible refine Kd.C_drewN ?_ _) | (with_reducible refine Kd.C_drew ?_))); (case side2 => exact HC0_6.out); rintro e w' ⟨rfl, ⟨nd, rfl⟩⟩; (try first | exact ⟨rfl, _, World.drewN_drewN _ _ _⟩ | exact ⟨rfl, _, Eq.trans (World.drewN_drewN _ _ _) (congrArg (World.drewN _) (Nat.add_assoc _ _ _))⟩)) | (go_at_call 53; (with_reducible refine (lib_in.calls kj36 10000 _ _ l0_7 true _ ?side1 ?side2 A70.out).mono ?_); (case side1 => repeat (first | exact (Kd.C_below HR0_7.out (by repeat (first | (with_reducible first | exact HB.out | apply below_alloc | apply pw_below_drewN | apply below_drew1 | refine below_set ?_ GE127.out) | exact HB.out))) | (with_reducible refine Kd.C_alloc ?_ _) | (with_reducible refine Kd.C_drewN ?_ _) | (with_reducible refine Kd.C_drew ?_))); (case side2 => exact HC0_7.out); rintro e w' ⟨rfl, ⟨nd, rfl⟩⟩; (try first | exact ⟨rfl, _, World.drewN_drewN _ _ _⟩ | exact ⟨rfl, _, Eq.trans (World.drewN_drewN _ _ _) (congrArg (World.drewN _) (Nat.add_assoc _ _ _))⟩)) | ((with_reducible refine gate_dst (N := 116) rfl ?_); (try (refine gate_guard (by rfl) ?_; dsimp only)); refine Kd.R_lit (Kd.int .i64) _ 3 ?hg (N := 116) ?hd (xs := ([a0_9, a0_10] : List Int)) (inner := [.int .i64 a0_9, .int .i64 a0_10]) (ok := fun _ => True) (okp := fun _ => True) ?hr ?hp (fun _ hk => hk) trivial (Below.refl _ _) (Nat.le_refl _) (by simp) ?_; (case hd => rfl); (case hg => rfl); (case hr => first | (go_simp; done) | (go_simp; rfl)); (case hp => exact (Reps.one (show Kd.M (Kd.int .i64) _ _ _ a0_9 [.int .i64 a0_9] from rfl) (Reps.one (show Kd.M (Kd.int .i64) _ _ _ a0_10 [.int .i64 a0_10] from rfl) (Reps.none _ _)))); intro v143 w74 ho75 hb hg_ hnew_; clear hg_ hnew_; (first | rw [← Ny142.out] at ho75 | (simp only [Int.reduceToNat] at ho75; rw [← Ny142.out] at ho75)); have n0_ := Aside0.mk (Kd.R_lower ho75 (below_size (by repeat (first | (with_reducible first | exact HB.out | apply below_alloc | apply pw_below_drewN | apply below_drew1 | refine below_set ?_ GE127.out) | exact HB.out)))); have n1_ := Aside0.mk (blk_below (g := gb127) (o := .cells #[.string a0_0, .bool a0_1, .int .i64 a0_2, .int .u64 a0_3, .int .i64 a0_4, .slice A0_5 l0_5.length c0_5, .slice A0_6 l0_6.length c0_6, .slice A0_7 l0_7.length c0_7, .int .i64 a0_8, .int .i64 a0_9, .int .i64 a0_10] 32 (0, 0)) (by (with_reducible repeat (first | refine blk_drewN ?_ _ | refine blk_drew ?_ | refine blk_alloc ?_ _)); exact BK127.out) hb); have n2_ := Aside0.mk (below_step (by repeat (first | (with_reducible first | exact HB.out | apply below_alloc | apply pw_below_drewN | apply below_drew1 | refine below_set ?_ GE127.out) | exact HB.out)) hb); clear BK127; clear HB; have HO144 := n0_; have BK127 := n1_; have HB := n2_; clear n0_ n1_ n2_; clear hb ho75; obtain ⟨Ao76, co76, eo76⟩ := Kd.R_slice HO144.out; subst eo76) | (go_at_call 53; (with_reducible refine (lib_in.calls kj36 10000 _ _ y142 t145 _ ?side1 ?side2 A72.out).mono ?_); (case side1 => repeat (first | exact (Kd.R_reads' HO144.out).2.2 | (with_reducible refine Kd.C_alloc ?_ _) | (with_reducible refine Kd.C_drewN ?_ _) | (with_reducible refine Kd.C_drew ?_))); (case side2 => exact (Kd.R_reads' HO144.out).2.1); rintro e w' ⟨rfl, ⟨nd, rfl⟩⟩; (try first | exact ⟨rfl, _, World.drewN_drewN _ _ _⟩ | exact ⟨rfl, _, Eq.trans (World.drewN_drewN _ _ _) (congrArg (World.drewN _) (Nat.add_assoc _ _ _))⟩)))
        repeat (go_quiet (fail); try go_wp2_with fail)
        go_meet
        case rel => exact ⟨_, (!t145), (by first | rfl | (simp; done) | (simp [*]; done)), H', ⟨by have := HJ3.out; have := HJ11.out; have := HJ20.out; have := HJ27.out; have := HJ36.out; first | omega | exact Nat.le_refl _⟩, ⟨by (with_reducible repeat (first | refine blk_drewN ?_ _ | refine blk_drew ?_ | refine blk_alloc ?_ _)); exact BK127.out⟩, ⟨by repeat (first | (with_reducible first | exact HB.out | apply below_alloc | apply pw_below_drewN | apply below_drew1 | refine below_set ?_ GE127.out) | exact HB.out)⟩⟩
       clear HC67
       obtain ⟨kq, x100_66, rfl, HA, HJ66, BK127, HB⟩ := hcut
       cases kq with
       | zero => exact absurd HA.out (by simp [lib_CheckCell.j5])
       | succ kj66 =>
        have H := HA.out
        clear HA
        simp only [lib_CheckCell.j5] at H
        by_cases c79 : x100_66 = true
        · subst c79
          have H1 : (some 2) = some r := by rw [if_pos rfl] at H; exact H
          clear H
          have H := H1
          clear H1
          obtain rfl := Option.some.inj H
          go_wp2
          repeat (go_quiet (fail); try go_wp2)
          go_ret
          exact ⟨by first | rfl | (simp [errW_none, errW_some] <;> rfl) | (simp [*, errW_none, errW_some] <;> rfl), by repeat (first | (with_reducible first | exact HB.out | apply below_alloc | apply pw_below_drewN | apply below_drew1 | refine below_set ?_ GE127.out) | exact HB.out)⟩
        replace c79 := Bool.eq_false_iff.mpr c79
        subst c79
        have H1 : (if a0_1 = true then (lib_CheckCell.j6 kj66 a0_0 a0_1 a0_2 a0_3 a0_4 l0_5 l0_6 l0_7 a0_8 a0_9 a0_10) else (if a0_9 = 0 then (if a0_10 = 0 then (lib_CheckCell.j6 kj66 a0_0 a0_1 a0_2 a0_3 a0_4 l0_5 l0_6 l0_7 a0_8 a0_9 a0_10) else (some 4)) else (some 4))) = some r := by rw [if_neg (show ¬ (false = true) by decide)] at H; exact H
        clear H
        have H := H1
        clear H1
        by_cases c80 : a0_1 = true
        · subst c80
          have H1 : (lib_CheckCell.j6 kj66 a0_0 true a0_2 a0_3 a0_4 l0_5 l0_6 l0_7 a0_8 a0_9 a0_10) = some r := by rw [if_pos rfl] at H; exact H
          clear H
          have H := H1
          clear H1
          have H' := Aside0.mk H
          clear H
          have hcz81_0 : wc.cell? ⟨gb127, 0, none⟩ = some (.string a0_0) := (blk_cell BK127.out 0).trans rfl
          have hcz81_1 : wc.cell? ⟨gb127, 1, none⟩ = some (.bool true) := (blk_cell BK127.out 1).trans rfl
          have hcz81_2 : wc.cell? ⟨gb127, 2, none⟩ = some (.int .i64 a0_2) := (blk_cell BK127.out 2).trans rfl
          have hcz81_3 : wc.cell? ⟨gb127, 3, none⟩ = some (.int .u64 a0_3) := (blk_cell BK127.out 3).trans rfl
          have hcz81_4 : wc.cell? ⟨gb127, 4, none⟩ = some (.int .i64 a0_4) := (blk_cell BK127.out 4).trans rfl
          have hcz81_5 : wc.cell? ⟨gb127, 5, none⟩ = some (.slice A0_5 l0_5.length c0_5) := (blk_cell BK127.out 5).trans rfl
          have hcz81_6 : wc.cell? ⟨gb127, 6, none⟩ = some (.slice A0_6 l0_6.length c0_6) := (blk_cell BK127.out 6).trans rfl
          have hcz81_7 : wc.cell? ⟨gb127, 7, none⟩ = some (.slice A0_7 l0_7.length c0_7) := (blk_cell BK127.out 7).trans rfl
          have hcz81_8 : wc.cell? ⟨gb127, 8, none⟩ = some (.int .i64 a0_8) := (blk_cell BK127.out 8).trans rfl
          have hcz81_9 : wc.cell? ⟨gb127, 9, none⟩ = some (.int .i64 a0_9) := (blk_cell BK127.out 9).trans rfl
          have hcz81_10 : wc.cell? ⟨gb127, 10, none⟩ = some (.int .i64 a0_10) := (blk_cell BK127.out 10).trans rfl
          have hfz81_0 := blk_frozen BK127.out 0
          have hfz81_1 := blk_frozen BK127.out 1
          have hfz81_2 := blk_frozen BK127.out 2
          have hfz81_3 := blk_frozen BK127.out 3
          have hfz81_4 := blk_frozen BK127.out 4
          have hfz81_5 := blk_frozen BK127.out 5
          have hfz81_6 := blk_frozen BK127.out 6
          have hfz81_7 := blk_frozen BK127.out 7
          have hfz81_8 := blk_frozen BK127.out 8
          have hfz81_9 := blk_frozen BK127.out 9
          have hfz81_10 := blk_frozen BK127.out 10
          go_wp2
          repeat (go_quiet (fail); try go_wp2)
          go_meet
          case rel => exact ⟨_, H', ⟨by have := HJ3.out; have := HJ11.out; have := HJ20.out; have := HJ27.out; have := HJ36.out; have := HJ66.out; first | omega | exact Nat.le_refl _⟩, ⟨by (with_reducible repeat (first | refine blk_drewN ?_ _ | refine blk_drew ?_ | refine blk_alloc ?_ _)); exact BK127.out⟩, ⟨by repeat (first | (with_reducible first | exact HB.out | apply below_alloc | apply pw_below_drewN | apply below_drew1 | refine below_set ?_ GE127.out) | exact HB.out)⟩⟩
        replace c80 := Bool.eq_false_iff.mpr c80
        subst c80
        have H1 : (if a0_9 = 0 then (if a0_10 = 0 then (lib_CheckCell.j6 kj66 a0_0 false a0_2 a0_3 a0_4 l0_5 l0_6 l0_7 a0_8 a0_9 a0_10) else (some 4)) else (some 4)) = some r := by rw [if_neg (show ¬ (false = true) by decide)] at H; exact H
        clear H
        have H := H1
        clear H1
        by_cases c82 : a0_9 = 0
        rotate_left
        · rw [if_neg c82] at H
          have c82b0 : (a0_9 == 0) = false := beq_eq_false_iff_ne.mpr c82
          have c82b1 : (a0_9 != 0) = true := bne_iff_ne.mpr c82
          obtain rfl := Option.some.inj H
          have hcz86_0 : wc.cell? ⟨gb127, 0, none⟩ = some (.string a0_0) := (blk_cell BK127.out 0).trans rfl
          have hcz86_1 : wc.cell? ⟨gb127, 1, none⟩ = some (.bool false) := (blk_cell BK127.out 1).trans rfl
          have hcz86_2 : wc.cell? ⟨gb127, 2, none⟩ = some (.int .i64 a0_2) := (blk_cell BK127.out 2).trans rfl
          have hcz86_3 : wc.cell? ⟨gb127, 3, none⟩ = some (.int .u64 a0_3) := (blk_cell BK127.out 3).trans rfl
          have hcz86_4 : wc.cell? ⟨gb127, 4, none⟩ = some (.int .i64 a0_4) := (blk_cell BK127.out 4).trans rfl
          have hcz86_5 : wc.cell? ⟨gb127, 5, none⟩ = some (.slice A0_5 l0_5.length c0_5) := (blk_cell BK127.out 5).trans rfl
          have hcz86_6 : wc.cell? ⟨gb127, 6, none⟩ = some (.slice A0_6 l0_6.length c0_6) := (blk_cell BK127.out 6).trans rfl
          have hcz86_7 : wc.cell? ⟨gb127, 7, none⟩ = some (.slice A0_7 l0_7.length c0_7) := (blk_cell BK127.out 7).trans rfl
          have hcz86_8 : wc.cell? ⟨gb127, 8, none⟩ = some (.int .i64 a0_8) := (blk_cell BK127.out 8).trans rfl
          have hcz86_9 : wc.cell? ⟨gb127, 9, none⟩ = some (.int .i64 a0_9) := (blk_cell BK127.out 9).trans rfl
          have hcz86_10 : wc.cell? ⟨gb127, 10, none⟩ = some (.int .i64 a0_10) := (blk_cell BK127.out 10).trans rfl
          have hfz86_0 := blk_frozen BK127.out 0
          have hfz86_1 := blk_frozen BK127.out 1
          have hfz86_2 := blk_frozen BK127.out 2
          have hfz86_3 := blk_frozen BK127.out 3
          have hfz86_4 := blk_frozen BK127.out 4
          have hfz86_5 := blk_frozen BK127.out 5
          have hfz86_6 := blk_frozen BK127.out 6
          have hfz86_7 := blk_frozen BK127.out 7
          have hfz86_8 := blk_frozen BK127.out 8
          have hfz86_9 := blk_frozen BK127.out 9
          have hfz86_10 := blk_frozen BK127.out 10
          go_wp2
          repeat (go_quiet (fail); try go_wp2)
          go_ret
          exact ⟨by first | rfl | (simp [errW_none, errW_some] <;> rfl) | (simp [*, errW_none, errW_some] <;> rfl), by repeat (first | (with_reducible first | exact HB.out | apply below_alloc | apply pw_below_drewN | apply below_drew1 | refine below_set ?_ GE127.out) | exact HB.out)⟩
        rw [if_pos c82] at H
        have c82b0 : (a0_9 == 0) = true := beq_iff_eq.mpr c82
        have c82b1 : (a0_9 != 0) = false := bne_eq_false_iff_eq.mpr c82
        clear c82
        by_cases c83 : a0_10 = 0
        rotate_left
        · rw [if_neg c83] at H
          have c83b0 : (a0_10 == 0) = false := beq_eq_false_iff_ne.mpr c83
          have c83b1 : (a0_10 != 0) = true := bne_iff_ne.mpr c83
          obtain rfl := Option.some.inj H
          have hcz85_0 : wc.cell? ⟨gb127, 0, none⟩ = some (.string a0_0) := (blk_cell BK127.out 0).trans rfl
          have hcz85_1 : wc.cell? ⟨gb127, 1, none⟩ = some (.bool false) := (blk_cell BK127.out 1).trans rfl
          have hcz85_2 : wc.cell? ⟨gb127, 2, none⟩ = some (.int .i64 a0_2) := (blk_cell BK127.out 2).trans rfl
          have hcz85_3 : wc.cell? ⟨gb127, 3, none⟩ = some (.int .u64 a0_3) := (blk_cell BK127.out 3).trans rfl
          have hcz85_4 : wc.cell? ⟨gb127, 4, none⟩ = some (.int .i64 a0_4) := (blk_cell BK127.out 4).trans rfl
          have hcz85_5 : wc.cell? ⟨gb127, 5, none⟩ = some (.slice A0_5 l0_5.length c0_5) := (blk_cell BK127.out 5).trans rfl
          have hcz85_6 : wc.cell? ⟨gb127, 6, none⟩ = some (.slice A0_6 l0_6.length c0_6) := (blk_cell BK127.out 6).trans rfl
          have hcz85_7 : wc.cell? ⟨gb127, 7, none⟩ = some (.slice A0_7 l0_7.length c0_7) := (blk_cell BK127.out 7).trans rfl
          have hcz85_8 : wc.cell? ⟨gb127, 8, none⟩ = some (.int .i64 a0_8) := (blk_cell BK127.out 8).trans rfl
          have hcz85_9 : wc.cell? ⟨gb127, 9, none⟩ = some (.int .i64 a0_9) := (blk_cell BK127.out 9).trans rfl
          have hcz85_10 : wc.cell? ⟨gb127, 10, none⟩ = some (.int .i64 a0_10) := (blk_cell BK127.out 10).trans rfl
          have hfz85_0 := blk_frozen BK127.out 0
          have hfz85_1 := blk_frozen BK127.out 1
          have hfz85_2 := blk_frozen BK127.out 2
          have hfz85_3 := blk_frozen BK127.out 3
          have hfz85_4 := blk_frozen BK127.out 4
          have hfz85_5 := blk_frozen BK127.out 5
          have hfz85_6 := blk_frozen BK127.out 6
          have hfz85_7 := blk_frozen BK127.out 7
          have hfz85_8 := blk_frozen BK127.out 8
          have hfz85_9 := blk_frozen BK127.out 9
          have hfz85_10 := blk_frozen BK127.out 10
          go_wp2
          repeat (go_quiet (fail); try go_wp2)
          go_ret
          exact ⟨by first | rfl | (simp [errW_none, errW_some] <;> rfl) | (simp [*, errW_none, errW_some] <;> rfl), by repeat (first | (with_reducible first | exact HB.out | apply below_alloc | apply pw_below_drewN | apply below_drew1 | refine below_set ?_ GE127.out) | exact HB.out)⟩
        rw [if_pos c83] at H
        have c83b0 : (a0_10 == 0) = true := beq_iff_eq.mpr c83
        have c83b1 : (a0_10 != 0) = false := bne_eq_false_iff_eq.mpr c83
        clear c83
        have H' := Aside0.mk H
        clear H
        have hcz84_0 : wc.cell? ⟨gb127, 0, none⟩ = some (.string a0_0) := (blk_cell BK127.out 0).trans rfl
        have hcz84_1 : wc.cell? ⟨gb127, 1, none⟩ = some (.bool false) := (blk_cell BK127.out 1).trans rfl
        have hcz84_2 : wc.cell? ⟨gb127, 2, none⟩ = some (.int .i64 a0_2) := (blk_cell BK127.out 2).trans rfl
        have hcz84_3 : wc.cell? ⟨gb127, 3, none⟩ = some (.int .u64 a0_3) := (blk_cell BK127.out 3).trans rfl
        have hcz84_4 : wc.cell? ⟨gb127, 4, none⟩ = some (.int .i64 a0_4) := (blk_cell BK127.out 4).trans rfl
        have hcz84_5 : wc.cell? ⟨gb127, 5, none⟩ = some (.slice A0_5 l0_5.length c0_5) := (blk_cell BK127.out 5).trans rfl
        have hcz84_6 : wc.cell? ⟨gb127, 6, none⟩ = some (.slice A0_6 l0_6.length c0_6) := (blk_cell BK127.out 6).trans rfl
        have hcz84_7 : wc.cell? ⟨gb127, 7, none⟩ = some (.slice A0_7 l0_7.length c0_7) := (blk_cell BK127.out 7).trans rfl
        have hcz84_8 : wc.cell? ⟨gb127, 8, none⟩ = some (.int .i64 a0_8) := (blk_cell BK127.out 8).trans rfl
        have hcz84_9 : wc.cell? ⟨gb127, 9, none⟩ = some (.int .i64 a0_9) := (blk_cell BK127.out 9).trans rfl
        have hcz84_10 : wc.cell? ⟨gb127, 10, none⟩ = some (.int .i64 a0_10) := (blk_cell BK127.out 10).trans rfl
        have hfz84_0 := blk_frozen BK127.out 0
        have hfz84_1 := blk_frozen BK127.out 1
        have hfz84_2 := blk_frozen BK127.out 2
        have hfz84_3 := blk_frozen BK127.out 3
        have hfz84_4 := blk_frozen BK127.out 4
        have hfz84_5 := blk_frozen BK127.out 5
        have hfz84_6 := blk_frozen BK127.out 6
        have hfz84_7 := blk_frozen BK127.out 7
        have hfz84_8 := blk_frozen BK127.out 8
        have hfz84_9 := blk_frozen BK127.out 9
        have hfz84_10 := blk_frozen BK127.out 10
        go_wp2
        repeat (go_quiet (fail); try go_wp2)
        go_meet
        case rel => exact ⟨_, H', ⟨by have := HJ3.out; have := HJ11.out; have := HJ20.out; have := HJ27.out; have := HJ36.out; have := HJ66.out; first | omega | exact Nat.le_refl _⟩, ⟨by (with_reducible repeat (first | refine blk_drewN ?_ _ | refine blk_drew ?_ | refine blk_alloc ?_ _)); exact BK127.out⟩, ⟨by repeat (first | (with_reducible first | exact HB.out | apply below_alloc | apply pw_below_drewN | apply below_drew1 | refine below_set ?_ GE127.out) | exact HB.out)⟩⟩
  clear HC11
  obtain ⟨kq, HA, HJ10, BK127, HB⟩ := hcut
  cases kq with
  | zero => exact absurd HA.out (by simp [lib_CheckCell.j6])
  | succ kj10 =>
   have H := HA.out
   clear HA
   simp only [lib_CheckCell.j6] at H
   have H' := Aside0.mk H
   clear H
   have hcz87_0 : wc.cell? ⟨gb127, 0, none⟩ = some (.string a0_0) := (blk_cell BK127.out 0).trans rfl
   have hcz87_1 : wc.cell? ⟨gb127, 1, none⟩ = some (.bool a0_1) := (blk_cell BK127.out 1).trans rfl
   have hcz87_2 : wc.cell? ⟨gb127, 2, none⟩ = some (.int .i64 a0_2) := (blk_cell BK127.out 2).trans rfl
   have hcz87_3 : wc.cell? ⟨gb127, 3, none⟩ = some (.int .u64 a0_3) := (blk_cell BK127.out 3).trans rfl
   have hcz87_4 : wc.cell? ⟨gb127, 4, none⟩ = some (.int .i64 a0_4) := (blk_cell BK127.out 4).trans rfl
   have hcz87_5 : wc.cell? ⟨gb127, 5, none⟩ = some (.slice A0_5 l0_5.length c0_5) := (blk_cell BK127.out 5).trans rfl
   have hcz87_6 : wc.cell? ⟨gb127, 6, none⟩ = some (.slice A0_6 l0_6.length c0_6) := (blk_cell BK127.out 6).trans rfl
   have hcz87_7 : wc.cell? ⟨gb127, 7, none⟩ = some (.slice A0_7 l0_7.length c0_7) := (blk_cell BK127.out 7).trans rfl
   have hcz87_8 : wc.cell? ⟨gb127, 8, none⟩ = some (.int .i64 a0_8) := (blk_cell BK127.out 8).trans rfl
   have hcz87_9 : wc.cell? ⟨gb127, 9, none⟩ = some (.int .i64 a0_9) := (blk_cell BK127.out 9).trans rfl
   have hcz87_10 : wc.cell? ⟨gb127, 10, none⟩ = some (.int .i64 a0_10) := (blk_cell BK127.out 10).trans rfl
   have hfz87_0 := blk_frozen BK127.out 0
   have hfz87_1 := blk_frozen BK127.out 1
   have hfz87_2 := blk_frozen BK127.out 2
   have hfz87_3 := blk_frozen BK127.out 3
   have hfz87_4 := blk_frozen BK127.out 4
   have hfz87_5 := blk_frozen BK127.out 5
   have hfz87_6 := blk_frozen BK127.out 6
   have hfz87_7 := blk_frozen BK127.out 7
   have hfz87_8 := blk_frozen BK127.out 8
   have hfz87_9 := blk_frozen BK127.out 9
   have hfz87_10 := blk_frozen BK127.out 10
   go_wp2
   repeat (go_quiet (fail); try go_wp2)
   go_loopg [137] kj10 (fun kq v137 w' => ∃ (x137_3 : Int), v137 = .int .i64 x137_3 ∧ Aside0 (lib_CheckCell.l0 kq (l0_6.length : Int) x137_3 a0_0 a0_1 a0_2 a0_3 a0_4 l0_5 l0_6 l0_7 a0_8 a0_9 a0_10 = some r) ∧ Aside0 (kq ≤ kj10) ∧ Aside0 (w'.heap[gb127]? = some (.cells #[.string a0_0, .bool a0_1, .int .i64 a0_2, .int .u64 a0_3, .int .i64 a0_4, (.slice A0_5 l0_5.length c0_5), (.slice A0_6 l0_6.length c0_6), (.slice A0_7 l0_7.length c0_7), .int .i64 a0_8, .int .i64 a0_9, .int .i64 a0_10] 32 (0, 0))) ∧ Aside0 (Below w.heap.size w w'))
   case atStart => exact ⟨(0), (by first | rfl | (simp; done) | (simp [*]; done)), H', ⟨Nat.le_refl _⟩, ⟨by (with_reducible repeat (first | refine blk_drewN ?_ _ | refine blk_drew ?_ | refine blk_alloc ?_ _)); exact BK127.out⟩, ⟨by repeat (first | (with_reducible first | exact HB.out | apply below_alloc | apply pw_below_drewN | apply below_drew1 | refine below_set ?_ GE127.out) | exact HB.out)⟩⟩
   clear H'
   clear hcz87_0 hcz87_1 hcz87_10 hcz87_2 hcz87_3 hcz87_4 hcz87_5 hcz87_6 hcz87_7 hcz87_8 hcz87_9 hfz87_0 hfz87_1 hfz87_10 hfz87_2 hfz87_3 hfz87_4 hfz87_5 hfz87_6 hfz87_7 hfz87_8 hfz87_9
   obtain ⟨x137_3, rfl, HA, HK3, BK127, HB⟩ := hrel
   cases gk with
   | zero => exact absurd HA.out (by simp [lib_CheckCell.l0])
   | succ k3 =>
    have H := HA.out
    clear HA
    simp only [lib_CheckCell.l0] at H
    by_cases c88 : x137_3 < (l0_6.length : Int)
    rotate_left
    · rw [if_neg c88] at H
      have c88b0 : decide (x137_3 < (l0_6.length : Int)) = false := decide_eq_false c88
      clear c88
      obtain rfl := Option.some.inj H
      go_wp2
      repeat (go_quiet (fail); try go_wp2)
      go_ret
      exact ⟨by first | rfl | (simp [errW_none, errW_some] <;> rfl) | (simp [*, errW_none, errW_some] <;> rfl), by repeat (first | (with_reducible first | exact HB.out | apply below_alloc | apply pw_below_drewN | apply below_drew1 | refine below_set ?_ GE127.out) | exact HB.out)⟩
    rw [if_pos c88] at H
    have c88b0 : decide (x137_3 < (l0_6.length : Int)) = true := decide_eq_true c88
    clear c88
    by_cases c89 : 0 ≤ x137_3
    rotate_left
    · rw [if_neg c89] at H
      exact absurd H (by simp)
    rw [if_pos c89] at H
    have c89b0 : decide (0 ≤ x137_3) = true := decide_eq_true c89
    clear c89
    by_cases c90 : x137_3 < (l0_6.length : Int)
    rotate_left
    · rw [if_neg c90] at H
      exact absurd H (by simp)
    rw [if_pos c90] at H
    have c90b0 : decide (x137_3 < (l0_6.length : Int)) = true := decide_eq_true c90
    clear c90
    by_cases c91 : x137_3 < (l0_7.length : Int)
    rotate_left
    · rw [if_neg c91] at H
      exact absurd H (by simp)
    rw [if_pos c91] at H
    have c91b0 : decide (x137_3 < (l0_7.length : Int)) = true := decide_eq_true c91
    clear c91
    by_cases c92 : (rd l0_6 x137_3) > (rd l0_7 x137_3)
    · rw [if_pos c92] at H
      have c92b0 : decide ((rd l0_7 x137_3) < (rd l0_6 x137_3)) = true := decide_eq_true c92
      clear c92
      obtain rfl := Option.some.inj H
      have hcz93_0 : wr.cell? ⟨gb127, 0, none⟩ = some (.string a0_0) := (blk_cell BK127.out 0).trans rfl
      have hcz93_1 : wr.cell? ⟨gb127, 1, none⟩ = some (.bool a0_1) := (blk_cell BK127.out 1).trans rfl
      have hcz93_2 : wr.cell? ⟨gb127, 2, none⟩ = some (.int .i64 a0_2) := (blk_cell BK127.out 2).trans rfl
      have hcz93_3 : wr.cell? ⟨gb127, 3, none⟩ = some (.int .u64 a0_3) := (blk_cell BK127.out 3).trans rfl
      have hcz93_4 : wr.cell? ⟨gb127, 4, none⟩ = some (.int .i64 a0_4) := (blk_cell BK127.out 4).trans rfl
      have hcz93_5 : wr.cell? ⟨gb127, 5, none⟩ = some (.slice A0_5 l0_5.length c0_5) := (blk_cell BK127.out 5).trans rfl
      have hcz93_6 : wr.cell? ⟨gb127, 6, none⟩ = some (.slice A0_6 l0_6.length c0_6) := (blk_cell BK127.out 6).trans rfl
      have hcz93_7 : wr.cell? ⟨gb127, 7, none⟩ = some (.slice A0_7 l0_7.length c0_7) := (blk_cell BK127.out 7).trans rfl
      have hcz93_8 : wr.cell? ⟨gb127, 8, none⟩ = some (.int .i64 a0_8) := (blk_cell BK127.out 8).trans rfl
      have hcz93_9 : wr.cell? ⟨gb127, 9, none⟩ = some (.int .i64 a0_9) := (blk_cell BK127.out 9).trans rfl
      have hcz93_10 : wr.cell? ⟨gb127, 10, none⟩ = some (.int .i64 a0_10) := (blk_cell BK127.out 10).trans rfl
      have hfz93_0 := blk_frozen BK127.out 0
      have hfz93_1 := blk_frozen BK127.out 1
      have hfz93_2 := blk_frozen BK127.out 2
      have hfz93_3 := blk_frozen BK127.out 3
      have hfz93_4 := blk_frozen BK127.out 4
      have hfz93_5 := blk_frozen BK127.out 5
      have hfz93_6 := blk_frozen BK127.out 6
      have hfz93_7 := blk_frozen BK127.out 7
      have hfz93_8 := blk_frozen BK127.out 8
      have hfz93_9 := blk_frozen BK127.out 9
      have hfz93_10 := blk_frozen BK127.out 10
      have p146 : 0 ≤ (x137_3 : Int) := of_decide_eq_true (by first | (with_reducible assumption) | assumption)
      have q146 : x137_3 < (l0_6.length : Int) := of_decide_eq_true (by first | (with_reducible assumption) | assumption)
      obtain ⟨ad146, e146, hx146_0⟩ := Kd.at_int HR0_6.out x137_3 p146 q146
      cases e146
      replace hx146_0 := (HB.out.cell (World.block_lt_of_cell? w _ hx146_0)).trans hx146_0
      replace p146 := eq_true p146
      replace q146 := eq_true q146
      have p147 : 0 ≤ (x137_3 : Int) := of_decide_eq_true (by first | (with_reducible assumption) | assumption)
      have q147 : x137_3 < (l0_7.length : Int) := of_decide_eq_true (by first | (with_reducible assumption) | assumption)
      obtain ⟨ad147, e147, hx147_0⟩ := Kd.at_int HR0_7.out x137_3 p147 q147
      cases e147
      replace hx147_0 := (HB.out.cell (World.block_lt_of_cell? w _ hx147_0)).trans hx147_0
      replace p147 := eq_true p147
      replace q147 := eq_true q147
      go_wp2
      repeat (go_quiet (fail); try go_wp2)
      go_ret
      exact ⟨by first | rfl | (simp [errW_none, errW_some] <;> rfl) | (simp [*, errW_none, errW_some] <;> rfl), by repeat (first | (with_reducible first | exact HB.out | apply below_alloc | apply pw_below_drewN | apply below_drew1 | refine below_set ?_ GE127.out) | exact HB.out)⟩
    rw [if_neg c92] at H
    have c92b0 : decide ((rd l0_7 x137_3) < (rd l0_6 x137_3)) = false := decide_eq_false c92
    clear c92
    have H' := Aside0.mk H
    clear H
    have hcz94_0 : wr.cell? ⟨gb127, 0, none⟩ = some (.string a0_0) := (blk_cell BK127.out 0).trans rfl
    have hcz94_1 : wr.cell? ⟨gb127, 1, none⟩ = some (.bool a0_1) := (blk_cell BK127.out 1).trans rfl
    have hcz94_2 : wr.cell? ⟨gb127, 2, none⟩ = some (.int .i64 a0_2) := (blk_cell BK127.out 2).trans rfl
    have hcz94_3 : wr.cell? ⟨gb127, 3, none⟩ = some (.int .u64 a0_3) := (blk_cell BK127.out 3).trans rfl
    have hcz94_4 : wr.cell? ⟨gb127, 4, none⟩ = some (.int .i64 a0_4) := (blk_cell BK127.out 4).trans rfl
    have hcz94_5 : wr.cell? ⟨gb127, 5, none⟩ = some (.slice A0_5 l0_5.length c0_5) := (blk_cell BK127.out 5).trans rfl
    have hcz94_6 : wr.cell? ⟨gb127, 6, none⟩ = some (.slice A0_6 l0_6.length c0_6) := (blk_cell BK127.out 6).trans rfl
    have hcz94_7 : wr.cell? ⟨gb127, 7, none⟩ = some (.slice A0_7 l0_7.length c0_7) := (blk_cell BK127.out 7).trans rfl
    have hcz94_8 : wr.cell? ⟨gb127, 8, none⟩ = some (.int .i64 a0_8) := (blk_cell BK127.out 8).trans rfl
    have hcz94_9 : wr.cell? ⟨gb127, 9, none⟩ = some (.int .i64 a0_9) := (blk_cell BK127.out 9).trans rfl
    have hcz94_10 : wr.cell? ⟨gb127, 10, none⟩ = some (.int .i64 a0_10) := (blk_cell BK127.out 10).trans rfl
    have hfz94_0 := blk_frozen BK127.out 0
    have hfz94_1 := blk_frozen BK127.out 1
    have hfz94_2 := blk_frozen BK127.out 2
    have hfz94_3 := blk_frozen BK127.out 3
    have hfz94_4 := blk_frozen BK127.out 4
    have hfz94_5 := blk_frozen BK127.out 5
    have hfz94_6 := blk_frozen BK127.out 6
    have hfz94_7 := blk_frozen BK127.out 7
    have hfz94_8 := blk_frozen BK127.out 8
    have hfz94_9 := blk_frozen BK127.out 9
    have hfz94_10 := blk_frozen BK127.out 10
    have p146 : 0 ≤ (x137_3 : Int) := of_decide_eq_true (by first | (with_reducible assumption) | assumption)
    have q146 : x137_3 < (l0_6.length : Int) := of_decide_eq_true (by first | (with_reducible assumption) | assumption)
    obtain ⟨ad146, e146, hx146_0⟩ := Kd.at_int HR0_6.out x137_3 p146 q146
    cases e146
    replace hx146_0 := (HB.out.cell (World.block_lt_of_cell? w _ hx146_0)).trans hx146_0
    replace p146 := eq_true p146
    replace q146 := eq_true q146
    have p147 : 0 ≤ (x137_3 : Int) := of_decide_eq_true (by first | (with_reducible assumption) | assumption)
    have q147 : x137_3 < (l0_7.length : Int) := of_decide_eq_true (by first | (with_reducible assumption) | assumption)
    obtain ⟨ad147, e147, hx147_0⟩ := Kd.at_int HR0_7.out x137_3 p147 q147
    cases e147
    replace hx147_0 := (HB.out.cell (World.block_lt_of_cell? w _ hx147_0)).trans hx147_0
    replace p147 := eq_true p147
    replace q147 := eq_true q147
    go_wp2
    repeat (go_quiet (fail); try go_wp2)
    go_roundg k3
    case measure => have := HJ3.out; have := HJ10.out; have := HK3.out; omega
    case rel => exact ⟨(wrap64 (x137_3 + 1)), (by first | rfl | (simp; done) | (simp [*]; done)), H', ⟨by have := HJ3.out; have := HJ10.out; have := HK3.out; omega⟩, ⟨by (with_reducible repeat (first | refine blk_drewN ?_ _ | refine blk_drew ?_ | refine blk_alloc ?_ _)); exact BK127.out⟩, ⟨by repeat (first | (with_reducible first | exact HB.out | apply below_alloc | apply pw_below_drewN | apply below_drew1 | refine below_set ?_ GE127.out) | exact HB.out)⟩⟩

end Go.Proofs.Ytagpbgabcenodaa.PB
