-- PRINTED by print.py (a twelfth state) out of the translation. Not trusted: Lean checks it.
import Derived.Test.YtgajgnemfccnhaaPLx0
import Derived.Test.YtgajgnemfccnhaaPLx8
import Derived.Test.YtgajgnemfccnhaaPLx9
namespace Go.Proofs.Ytgajgnemfccnhaa.PL
open Go.RowKit Go.Proofs.YtgajgnemfccnhaaW.PrintWords Go.Proofs.YtgajgnemfccnhaaW.PrintLast Go.Proofs.YtgajgnemfccnhaaW.PrintMore
attribute [local go_sem] max2_int min2_int max_two min_two max_three min_three max_four min_four   -- for this text's walks alone
private theorem z1 {α : Type} {l : List α} {i : Nat} {a : α} : l.toArray.setIfInBounds i a = (l.set i a).toArray := List.setIfInBounds_toArray _ _ _
private theorem z2 {α : Type} {x : α} {xs : List α} {a : α} : (x :: xs).set 0 a = a :: xs := List.set_cons_zero
private theorem z3 {α : Type} {x : α} {xs : List α} {n : Nat} {a : α} : (x :: xs).set (n + 1) a = x :: xs.set n a := List.set_cons_succ
private abbrev zb (n m : Nat) : Array Bool := (List.replicate n true ++ List.replicate m false).toArray
set_option linter.unusedVariables false
set_option linter.unusedSimpArgs false

/-! ### legal_Row: function 32 -/
mutual
def legal_Row.l0 : Nat → List Int → List Int → List (List Int) → Int → Int → Int → Int → Option (List Int × Int)
 | 0, _, _, _, _, _, _, _ => none
 | k + 1, x0, x1, x10, x11, x12, x151000, x151001 => if x12 ≥ 0 then (if 0 ≤ x11 then (if (x11 : Int).toNat ≤ 35184372088832 then (if 0 ≤ x12 then (if x12 < (x10.length : Int) then (legal_Row.l1 k x0 x1 (x10.set (x12 : Int).toNat (List.replicate (x11 : Int).toNat 0)) x11 x12 (wrap64 (x11 - 1)) x151000 x151001) else (none)) else (none)) else (none)) else (none)) else (legal_Row.l2 k x0 x1 x10 ([] : List Int) 0 (x0.length : Int) 0 x151000 x151001)
def legal_Row.l1 : Nat → List Int → List Int → List (List Int) → Int → Int → Int → Int → Int → Option (List Int × Int)
 | 0, _, _, _, _, _, _, _, _ => none
 | k + 1, x0, x1, x10, x11, x12, x13, x151000, x151001 => if x13 ≥ 0 then (if 0 ≤ x12 then (if x12 < (x10.length : Int) then (if 0 ≤ x13 then (if x13 < ((rd_L6 x10 x12).length : Int) then ((some (x10.set (x12 : Int).toNat ((rd_L6 x10 x12).set (x13 : Int).toNat (-1)) : List (List Int))).bind fun y166 => (if (wrap64 (x13 + 1)) < x11 then (if 0 ≤ (wrap64 (x13 + 1)) then (if (wrap64 (x13 + 1)) < ((rd_L6 y166 x12).length : Int) then (if x13 < ((rd_L6 y166 x12).length : Int) then (legal_Row.j2 k x0 x1 (y166.set (x12 : Int).toNat ((rd_L6 y166 x12).set (x13 : Int).toNat (rd (rd_L6 y166 x12) (wrap64 (x13 + 1))))) x11 x12 x13 x151000 x151001) else (none)) else (none)) else (none)) else (legal_Row.j2 k x0 x1 y166 x11 x12 x13 x151000 x151001))) else (none)) else (none)) else (none)) else (none)) else (legal_Row.l0 k x0 x1 x10 x11 (wrap64 (x12 - 1)) x151000 x151001)
def legal_Row.j2 : Nat → List Int → List Int → List (List Int) → Int → Int → Int → Int → Int → Option (List Int × Int)
 | 0, _, _, _, _, _, _, _, _ => none
 | k + 1, x0, x1, x10, x11, x12, x13, x151000, x151001 => if 0 ≤ x12 then (if x12 < (x0.length : Int) then (if x12 < (x1.length : Int) then (if 0 ≤ (wrap64 (x12 + 1)) then (if (wrap64 (x12 + 1)) < (x10.length : Int) then ((legal_cost.f (rd x0 x12) (rd x1 x12) (wrap64 (x151000 + x13)) (rd_L6 x10 (wrap64 (x12 + 1))) x151000 x151001).bind fun bt176 => (if bt176.2 = true then (if x12 < (x10.length : Int) then (if 0 ≤ x13 then (if x13 < ((rd_L6 x10 x12).length : Int) then (if (rd (rd_L6 x10 x12) x13) < 0 then (legal_Row.j3 k x0 x1 x10 x11 x12 x13 bt176.1 true x151000 x151001) else (legal_Row.j3 k x0 x1 x10 x11 x12 x13 bt176.1 (decide (bt176.1 ≤ (rd (rd_L6 x10 x12) x13))) x151000 x151001)) else (none)) else (none)) else (none)) else (legal_Row.j3 k x0 x1 x10 x11 x12 x13 bt176.1 false x151000 x151001))) else (none)) else (none)) else (none)) else (none)) else (none)
def legal_Row.j3 : Nat → List Int → List Int → List (List Int) → Int → Int → Int → Int → Bool → Int → Int → Option (List Int × Int)
 | 0, _, _, _, _, _, _, _, _, _, _ => none
 | k + 1, x0, x1, x10, x11, x12, x13, x14, x128, x151000, x151001 => if x128 = true then (if 0 ≤ x12 then (if x12 < (x10.length : Int) then (if 0 ≤ x13 then (if x13 < ((rd_L6 x10 x12).length : Int) then (legal_Row.l1 k x0 x1 (x10.set (x12 : Int).toNat ((rd_L6 x10 x12).set (x13 : Int).toNat x14)) x11 x12 (wrap64 (x13 - 1)) x151000 x151001) else (none)) else (none)) else (none)) else (none)) else (legal_Row.l1 k x0 x1 x10 x11 x12 (wrap64 (x13 - 1)) x151000 x151001)
def legal_Row.l2 : Nat → List Int → List Int → List (List Int) → List Int → Int → Int → Int → Int → Int → Option (List Int × Int)
 | 0, _, _, _, _, _, _, _, _, _ => none
 | k + 1, x0, x1, x10, x16, x17, x137, x138, x151000, x151001 => if x138 < x137 then (legal_Row.l3 k x0 x1 x10 x16 x17 x138 x137 x138 x151000 x151001) else (some (x16, 0))
def legal_Row.l3 : Nat → List Int → List Int → List (List Int) → List Int → Int → Int → Int → Int → Int → Int → Option (List Int × Int)
 | 0, _, _, _, _, _, _, _, _, _, _ => none
 | k + 1, x0, x1, x10, x16, x17, x18, x137, x138, x151000, x151001 => if 0 ≤ x18 then (if x18 < (x0.length : Int) then (if x18 < (x1.length : Int) then (if 0 ≤ (wrap64 (x18 + 1)) then (if (wrap64 (x18 + 1)) < (x10.length : Int) then ((legal_cost.f (rd x0 x18) (rd x1 x18) (wrap64 (x151000 + x17)) (rd_L6 x10 (wrap64 (x18 + 1))) x151000 x151001).bind fun bt189 => (if bt189.2 = true then (if x18 < (x10.length : Int) then (if 0 ≤ x17 then (if x17 < ((rd_L6 x10 x18).length : Int) then (legal_Row.j6 k x0 x1 x10 x16 x17 x18 x137 x138 (bt189.1 == (rd (rd_L6 x10 x18) x17)) x151000 x151001) else (none)) else (none)) else (none)) else (legal_Row.j6 k x0 x1 x10 x16 x17 x18 x137 x138 false x151000 x151001))) else (none)) else (none)) else (none)) else (none)) else (none)
def legal_Row.j6 : Nat → List Int → List Int → List (List Int) → List Int → Int → Int → Int → Int → Bool → Int → Int → Option (List Int × Int)
 | 0, _, _, _, _, _, _, _, _, _, _, _ => none
 | k + 1, x0, x1, x10, x16, x17, x18, x137, x138, x174, x151000, x151001 => if x174 = true then (if x16.length < 17592186044416 then (if 0 ≤ x18 then (if x18 < (x1.length : Int) then (legal_Row.l2 k x0 x1 x10 (x16 ++ [wrap64 (x151000 + x17)]) (wrap64 (x17 + (rd x1 x18))) x137 (wrap64 (x138 + 1)) x151000 x151001) else (none)) else (none)) else (none)) else (legal_Row.l3 k x0 x1 x10 x16 (wrap64 (x17 + 1)) x18 x137 x138 x151000 x151001)
end
def legal_Row.f (k : Nat) (l0 : List Int) (l1 : List Int) (a2_0 : Int) (a2_1 : Int) : Option (List Int × Int) := (legal_checkRow.f k l0 l1 a2_0 a2_1).bind fun t151 => (if t151 = 0 then (if 0 ≤ (wrap64 ((l0.length : Int) + 1)) then (if (wrap64 ((l0.length : Int) + 1) : Int).toNat ≤ 11728124029610 then ((some (List.replicate (wrap64 ((l0.length : Int) + 1) : Int).toNat [] : List (List Int))).bind fun y152 => (if 0 ≤ (wrap64 ((wrap64 (a2_1 - a2_0)) + 1)) then (if (wrap64 ((wrap64 (a2_1 - a2_0)) + 1) : Int).toNat ≤ 35184372088832 then (if 0 ≤ (l0.length : Int) then (if (l0.length : Int) < (y152.length : Int) then (legal_Row.l0 k l0 l1 (y152.set ((l0.length : Int) : Int).toNat (List.replicate (wrap64 ((wrap64 (a2_1 - a2_0)) + 1) : Int).toNat 0)) (wrap64 ((wrap64 (a2_1 - a2_0)) + 1)) (wrap64 ((l0.length : Int) - 1)) a2_0 a2_1) else (none)) else (none)) else (none)) else (none))) else (none)) else (none)) else (some (([] : List Int), t151)))
theorem legal_Row.mono_l : ∀ k, (∀ y0 y1 y2 y3 y4 y5 y6, LeO (legal_Row.l0 k y0 y1 y2 y3 y4 y5 y6) (legal_Row.l0 (k + 1) y0 y1 y2 y3 y4 y5 y6)) ∧ (∀ y0 y1 y2 y3 y4 y5 y6 y7, LeO (legal_Row.l1 k y0 y1 y2 y3 y4 y5 y6 y7) (legal_Row.l1 (k + 1) y0 y1 y2 y3 y4 y5 y6 y7)) ∧ (∀ y0 y1 y2 y3 y4 y5 y6 y7, LeO (legal_Row.j2 k y0 y1 y2 y3 y4 y5 y6 y7) (legal_Row.j2 (k + 1) y0 y1 y2 y3 y4 y5 y6 y7)) ∧ (∀ y0 y1 y2 y3 y4 y5 y6 y7 y8 y9, LeO (legal_Row.j3 k y0 y1 y2 y3 y4 y5 y6 y7 y8 y9) (legal_Row.j3 (k + 1) y0 y1 y2 y3 y4 y5 y6 y7 y8 y9)) ∧ (∀ y0 y1 y2 y3 y4 y5 y6 y7 y8, LeO (legal_Row.l2 k y0 y1 y2 y3 y4 y5 y6 y7 y8) (legal_Row.l2 (k + 1) y0 y1 y2 y3 y4 y5 y6 y7 y8)) ∧ (∀ y0 y1 y2 y3 y4 y5 y6 y7 y8 y9, LeO (legal_Row.l3 k y0 y1 y2 y3 y4 y5 y6 y7 y8 y9) (legal_Row.l3 (k + 1) y0 y1 y2 y3 y4 y5 y6 y7 y8 y9)) ∧ (∀ y0 y1 y2 y3 y4 y5 y6 y7 y8 y9 y10, LeO (legal_Row.j6 k y0 y1 y2 y3 y4 y5 y6 y7 y8 y9 y10) (legal_Row.j6 (k + 1) y0 y1 y2 y3 y4 y5 y6 y7 y8 y9 y10))
 | 0 => ⟨fun _ _ _ _ _ _ _ r h => by simp [legal_Row.l0] at h, fun _ _ _ _ _ _ _ _ r h => by simp [legal_Row.l1] at h, fun _ _ _ _ _ _ _ _ r h => by simp [legal_Row.j2] at h, fun _ _ _ _ _ _ _ _ _ _ r h => by simp [legal_Row.j3] at h, fun _ _ _ _ _ _ _ _ _ r h => by simp [legal_Row.l2] at h, fun _ _ _ _ _ _ _ _ _ _ r h => by simp [legal_Row.l3] at h, fun _ _ _ _ _ _ _ _ _ _ _ r h => by simp [legal_Row.j6] at h⟩
 | k + 1 => by
  obtain ⟨ih0, ih1, ih2, ih3, ih4, ih5, ih6⟩ := legal_Row.mono_l k
  refine ⟨?_, ?_, ?_, ?_, ?_, ?_, ?_⟩
  · intro y0 y1 y2 y3 y4 y5 y6
    unfold legal_Row.l0
    repeat' first
    | (with_reducible exact ih1 _ _ _ _ _ _ _ _)
    | (with_reducible exact ih4 _ _ _ _ _ _ _ _ _)
    | (with_reducible exact LeO.refl _)
    | (with_reducible exact LeO.none _)
    | (with_reducible refine LeO.ite ?_ ?_)
    | (with_reducible refine LeO.bind ?_ (fun _ => ?_))
  · intro y0 y1 y2 y3 y4 y5 y6 y7
    unfold legal_Row.l1
    repeat' first
    | (with_reducible exact ih0 _ _ _ _ _ _ _)
    | (with_reducible exact ih2 _ _ _ _ _ _ _ _)
    | (with_reducible exact LeO.refl _)
    | (with_reducible exact LeO.none _)
    | (with_reducible refine LeO.ite ?_ ?_)
    | (with_reducible refine LeO.bind ?_ (fun _ => ?_))
  · intro y0 y1 y2 y3 y4 y5 y6 y7
    unfold legal_Row.j2
    repeat' first
    | (with_reducible exact ih3 _ _ _ _ _ _ _ _ _ _)
    | (with_reducible exact LeO.refl _)
    | (with_reducible exact LeO.none _)
    | (with_reducible refine LeO.ite ?_ ?_)
    | (with_reducible refine LeO.bind ?_ (fun _ => ?_))
  · intro y0 y1 y2 y3 y4 y5 y6 y7 y8 y9
    unfold legal_Row.j3
    repeat' first
    | (with_reducible exact ih1 _ _ _ _ _ _ _ _)
    | (with_reducible exact LeO.refl _)
    | (with_reducible exact LeO.none _)
    | (with_reducible refine LeO.ite ?_ ?_)
    | (with_reducible refine LeO.bind ?_ (fun _ => ?_))
  · intro y0 y1 y2 y3 y4 y5 y6 y7 y8
    unfold legal_Row.l2
    repeat' first
    | (with_reducible exact ih5 _ _ _ _ _ _ _ _ _ _)
    | (with_reducible exact LeO.refl _)
    | (with_reducible exact LeO.none _)
    | (with_reducible refine LeO.ite ?_ ?_)
    | (with_reducible refine LeO.bind ?_ (fun _ => ?_))
  · intro y0 y1 y2 y3 y4 y5 y6 y7 y8 y9
    unfold legal_Row.l3
    repeat' first
    | (with_reducible exact ih6 _ _ _ _ _ _ _ _ _ _ _)
    | (with_reducible exact LeO.refl _)
    | (with_reducible exact LeO.none _)
    | (with_reducible refine LeO.ite ?_ ?_)
    | (with_reducible refine LeO.bind ?_ (fun _ => ?_))
  · intro y0 y1 y2 y3 y4 y5 y6 y7 y8 y9 y10
    unfold legal_Row.j6
    repeat' first
    | (with_reducible exact ih4 _ _ _ _ _ _ _ _ _)
    | (with_reducible exact ih5 _ _ _ _ _ _ _ _ _ _)
    | (with_reducible exact LeO.refl _)
    | (with_reducible exact LeO.none _)
    | (with_reducible refine LeO.ite ?_ ?_)
    | (with_reducible refine LeO.bind ?_ (fun _ => ?_))
theorem legal_Row.mono : ∀ a0 a1 a2 a3 k, LeO (legal_Row.f k a0 a1 a2 a3) (legal_Row.f (k + 1) a0 a1 a2 a3) := by
 intro a0 a1 a2 a3 k
 obtain ⟨ih0, ih1, ih2, ih3, ih4, ih5, ih6⟩ := legal_Row.mono_l k
 unfold legal_Row.f
 repeat' first
  | (with_reducible exact ih0 _ _ _ _ _ _ _)
  | (with_reducible exact legal_checkRow.mono _ _ _ _ _)
  | (with_reducible exact LeO.refl _)
  | (with_reducible exact LeO.none _)
  | (with_reducible refine LeO.ite ?_ ?_)
  | (with_reducible refine LeO.bind ?_ (fun _ => ?_))
def legal_Row.T17 : Bool × List (List Nat × List Nat) := (true, [([], []), ([], []), ([0, 1], [0, 1]), ([2], [2]), ([], []), ([], []), ([], []), ([5, 6], [5, 6]), ([7], [7]), ([], []), ([9], [9]), ([8, 10], [8, 10]), ([11], [11]), ([3, 4, 0, 1, 2, 3, 4, 5, 6, 7, 8, 9, 10, 11, 12], [3, 4]), ([13, 12, 0, 1, 2, 3, 4, 5, 6, 7, 8, 9, 10, 11, 12], [12, 13])])
def legal_Row.B17 : List Nat := [0, 0, 3, 7, 0, 0, 0, 96, 224, 0, 512, 2016, 4064, 8191, 16383]
theorem legal_Row.tab17 : rtab .any (opsOf Try.f32 17) = legal_Row.T17 := by kernel_rfl
theorem legal_Row.bits17 : waitsOk legal_Row.T17.2 legal_Row.B17 = true := by kernel_rfl
def legal_Row.T18 : Bool × List (List Nat × List Nat) := (true, [([], []), ([], []), ([0, 1], [0, 1]), ([2], [2]), ([], []), ([], []), ([4, 5], [4, 5]), ([6], [6]), ([], []), ([8], [8]), ([], []), ([9, 10], [9, 10]), ([], []), ([], []), ([13], [13]), ([12, 14], [12, 14]), ([15], [15]), ([], []), ([3, 7, 11, 16, 17], [3, 7, 11, 16, 17]), ([18], [18]), ([19], [19]), ([19], [19]), ([20, 18, 0, 1, 2, 3, 4, 5, 6, 7, 8, 9, 10, 11, 12, 13, 14, 15, 16, 17, 18, 19, 20], [20]), ([21, 22, 0, 1, 2, 3, 4, 5, 6, 7, 8, 9, 10, 11, 12, 13, 14, 15, 16, 17, 18, 19, 20, 21, 22], [21])])
def legal_Row.B18 : List Nat := [0, 0, 3, 7, 0, 0, 48, 112, 0, 256, 0, 1792, 0, 0, 8192, 28672, 61440, 0, 262143, 524287, 1048575, 1048575, 2097151, 8388607]
theorem legal_Row.tab18 : rtab .any (opsOf Try.f32 18) = legal_Row.T18 := by kernel_rfl
theorem legal_Row.bits18 : waitsOk legal_Row.T18.2 legal_Row.B18 = true := by kernel_rfl
def legal_Row.T26 : Bool × List (List Nat × List Nat) := (true, [([], []), ([], []), ([0, 1], [0, 1]), ([2], [2]), ([], []), ([], []), ([4, 5], [4, 5]), ([6], [6]), ([], []), ([8], [8]), ([], []), ([9, 10], [9, 10]), ([], []), ([], []), ([13], [13]), ([12, 14], [12, 14]), ([15], [15]), ([], []), ([3, 7, 11, 16, 17], [3, 7, 11, 16, 17]), ([18], [18]), ([19], [19]), ([19], [19]), ([20, 18, 0, 1, 2, 3, 4, 5, 6, 7, 8, 9, 10, 11, 12, 13, 14, 15, 16, 17, 18, 19, 20], [20]), ([21, 22, 0, 1, 2, 3, 4, 5, 6, 7, 8, 9, 10, 11, 12, 13, 14, 15, 16, 17, 18, 19, 20, 21, 22], [21])])
def legal_Row.B26 : List Nat := [0, 0, 3, 7, 0, 0, 48, 112, 0, 256, 0, 1792, 0, 0, 8192, 28672, 61440, 0, 262143, 524287, 1048575, 1048575, 2097151, 8388607]
theorem legal_Row.tab26 : rtab .any (opsOf Try.f32 26) = legal_Row.T26 := by kernel_rfl
theorem legal_Row.bits26 : waitsOk legal_Row.T26.2 legal_Row.B26 = true := by kernel_rfl
set_option maxHeartbeats 8000000 in
set_option maxRecDepth 100000 in
theorem legal_Row.calls (k : Nat) (A0 : Option Addr) (c0 : Nat) (l0 : List Int) (A1 : Option Addr) (c1 : Nat) (l1 : List Int) (a2_0 : Int) (a2_1 : Int) (r1 : List Int) (r2 : Int) (w : World) (hr0 : Kd.C (Kd.int .i64) w A0 l0.length l0) (hc0 : l0.length ≤ c0) (hr1 : Kd.C (Kd.int .i64) w A1 l1.length l1) (hc1 : l1.length ≤ c1) (h : legal_Row.f k l0 l1 a2_0 a2_1 = some (r1, r2)) :
 Calls Try.prog 32 #[.slice A0 l0.length c0, .slice A1 l1.length c1, .agg #[.int .i64 a2_0, .int .i64 a2_1]] w fun e w' => ∃ v0_ : Value, e = .returned (.tuple #[v0_, .int .i64 r2]) ∧ Kd.R (Kd.int .i64) 3 w' w.heap.size (fun _ => True) v0_ r1 ∧ Below w.heap.size w w' := by
 have HR0 := Aside0.mk hr0
 have HC0 := Aside0.mk hc0
 clear hr0 hc0
 have HR1 := Aside0.mk hr1
 have HC1 := Aside0.mk hc1
 clear hr1 hc1
 have HB := Aside0.mk (Below.refl w.heap.size w)
 have H : ((legal_checkRow.f k l0 l1 a2_0 a2_1).bind fun t151 => (if t151 = 0 then (if 0 ≤ (wrap64 ((l0.length : Int) + 1)) then (if (wrap64 ((l0.length : Int) + 1) : Int).toNat ≤ 11728124029610 then ((some (List.replicate (wrap64 ((l0.length : Int) + 1) : Int).toNat [] : List (List Int))).bind fun y152 => (if 0 ≤ (wrap64 ((wrap64 (a2_1 - a2_0)) + 1)) then (if (wrap64 ((wrap64 (a2_1 - a2_0)) + 1) : Int).toNat ≤ 35184372088832 then (if 0 ≤ (l0.length : Int) then (if (l0.length : Int) < (y152.length : Int) then (legal_Row.l0 k l0 l1 (y152.set ((l0.length : Int) : Int).toNat (List.replicate (wrap64 ((wrap64 (a2_1 - a2_0)) + 1) : Int).toNat 0)) (wrap64 ((wrap64 (a2_1 - a2_0)) + 1)) (wrap64 ((l0.length : Int) - 1)) a2_0 a2_1) else (none)) else (none)) else (none)) else (none))) else (none)) else (none)) else (some (([] : List Int), t151)))) = some (r1, r2) := h
 clear h
 replace H := Option.bind_eq_some_iff.mp H
 obtain ⟨t151, A40, H⟩ := H
 replace H : (if t151 = 0 then (if 0 ≤ (wrap64 ((l0.length : Int) + 1)) then (if (wrap64 ((l0.length : Int) + 1) : Int).toNat ≤ 11728124029610 then ((some (List.replicate (wrap64 ((l0.length : Int) + 1) : Int).toNat [] : List (List Int))).bind fun y152 => (if 0 ≤ (wrap64 ((wrap64 (a2_1 - a2_0)) + 1)) then (if (wrap64 ((wrap64 (a2_1 - a2_0)) + 1) : Int).toNat ≤ 35184372088832 then (if 0 ≤ (l0.length : Int) then (if (l0.length : Int) < (y152.length : Int) then (legal_Row.l0 k l0 l1 (y152.set ((l0.length : Int) : Int).toNat (List.replicate (wrap64 ((wrap64 (a2_1 - a2_0)) + 1) : Int).toNat 0)) (wrap64 ((wrap64 (a2_1 - a2_0)) + 1)) (wrap64 ((l0.length : Int) - 1)) a2_0 a2_1) else (none)) else (none)) else (none)) else (none))) else (none)) else (none)) else (some (([] : List Int), t151))) = some (r1, r2) := H
 have A4 := Aside0.mk A40
 clear A40
 by_cases c5 : t151 = 0
 rotate_left
 · rw [if_neg c5] at H
   have c5b1 : (t151 != 0) = true := bne_iff_ne.mpr c5
   simp only [Option.some.injEq, Prod.mk.injEq] at H
   obtain ⟨rfl, rfl⟩ := H
   go_enter Try.func32, Try.ntmps32
   go_wp2_with (first | ((with_reducible refine gate_dst (N := 5) rfl ?_); refine box_event ?hg (N := 5) ?hd (cs := #[.int .i64 a2_0, .int .i64 a2_1]) (t := 62) ?hr ?_; (case hd => rfl); (case hg => rfl); (case hr => first | (go_simp; done) | (go_simp; rfl)); intro gb150 hg w97 hbox hb; have n0_ := Aside0.mk (below_step (by repeat (first | (with_reducible first | exact HB.out | apply below_alloc | apply pw_below_drewN | apply below_drew1) | exact HB.out)) hb); have n1_ := Aside0.mk (hbox); have n2_ := Aside0.mk ((by rw [hg]; exact (below_size (by repeat (first | (with_reducible first | exact HB.out | apply below_alloc | apply pw_below_drewN | apply below_drew1) | exact HB.out))) : w.heap.size ≤ gb150)); have n3_ := Aside0.mk ((by rw [hg]; exact (below_size (by repeat (first | (with_reducible first | exact HB.out | apply below_alloc | apply pw_below_drewN | apply below_drew1) | exact HB.out))) : w.heap.size ≤ gb150)); clear HB; have HB := n0_; have BK150 := n1_; clear n0_ n1_ n2_ n3_; clear hb hbox hg; have hcz98_0 : w97.cell? ⟨gb150, 0, none⟩ = some (.int .i64 a2_0) := (blk_cell BK150.out 0).trans rfl; have hcz98_1 : w97.cell? ⟨gb150, 1, none⟩ = some (.int .i64 a2_1) := (blk_cell BK150.out 1).trans rfl; have hfz98_1 := blk_frozen BK150.out 1) | ((with_reducible refine gate_callee (f := 54) rfl ?_); refine goesL_ (some 24) rfl rfl Try.func54 (by kernel_rfl) rfl #[.slice A0 l0.length c0, .slice A1 l1.length c1, .agg #[.int .i64 a2_0, .int .i64 a2_1]] rfl (by (try simp only [List.map_toArray, List.map_cons, List.map_nil]); first | done | rfl | (simp only [List.length_drop, List.length_take]; rfl)) ?_; (with_reducible refine (legal_checkRow.calls k _ _ l0 _ _ l1 a2_0 a2_1 t151 _ ?side1 ?side2 ?side3 ?side4 A4.out).mono ?_); (case side1 => repeat (first | exact (Kd.C_below HR0.out HB.out) | (with_reducible refine Kd.C_alloc ?_ _) | (with_reducible refine Kd.C_drewN ?_ _) | (with_reducible refine Kd.C_drew ?_))); (case side2 => exact HC0.out); (case side3 => repeat (first | exact (Kd.C_below HR1.out HB.out) | (with_reducible refine Kd.C_alloc ?_ _) | (with_reducible refine Kd.C_drewN ?_ _) | (with_reducible refine Kd.C_drew ?_))); (case side4 => exact HC1.out); rintro e w99 ⟨rfl, hb⟩; refine ⟨_, rfl, ?_⟩; have n0_ := Aside0.mk (blk_below (g := gb150) (o := .cells #[.int .i64 a2_0, .int .i64 a2_1] 62 (0, 0)) (by (with_reducible repeat (first | refine blk_drewN ?_ _ | refine blk_drew ?_ | refine blk_alloc ?_ _)); exact BK150.out) hb); have n1_ := Aside0.mk (below_step (by repeat (first | (with_reducible first | exact HB.out | apply below_alloc | apply pw_below_drewN | apply below_drew1 | refine below_set ?_ GE150.out) | exact HB.out)) hb); clear BK150; clear HB; have HB := n1_; clear n0_ n1_; (try clear hb); (try clear hb2); (try clear hk); (try clear hi)))
   go_ret2
   exact ⟨_, by first | rfl | (simp [errW_none, errW_some] <;> rfl) | (simp [*, errW_none, errW_some] <;> rfl), by first | exact Kd.R_nil _ _ _ _ _ | exact Kd.N_nil _ _ _ _ _ | exact Kd.V_nil _ _ _ _ _ | exact Kd.Q_nil _ _ _ _ _ | exact Kd.S_nil _ _ _ _ _, by repeat (first | (with_reducible first | exact HB.out | apply below_alloc | apply pw_below_drewN | apply below_drew1 | refine below_set ?_ GE150.out) | exact HB.out)⟩
 rw [if_pos c5] at H
 have c5b0 : (t151 == 0) = true := beq_iff_eq.mpr c5
 have c5b1 : (t151 != 0) = false := bne_eq_false_iff_eq.mpr c5
 clear c5
 obtain ⟨ji6, hji6⟩ : ∃ j_ : Int, (wrap64 ((l0.length : Int) + 1)) = j_ := ⟨_, rfl⟩
 replace H : (if 0 ≤ (ji6) then (if (ji6 : Int).toNat ≤ 11728124029610 then ((some (List.replicate (ji6 : Int).toNat [] : List (List Int))).bind fun y152 => (if 0 ≤ (wrap64 ((wrap64 (a2_1 - a2_0)) + 1)) then (if (wrap64 ((wrap64 (a2_1 - a2_0)) + 1) : Int).toNat ≤ 35184372088832 then (if 0 ≤ (l0.length : Int) then (if (l0.length : Int) < (y152.length : Int) then (legal_Row.l0 k l0 l1 (y152.set ((l0.length : Int) : Int).toNat (List.replicate (wrap64 ((wrap64 (a2_1 - a2_0)) + 1) : Int).toNat 0)) (wrap64 ((wrap64 (a2_1 - a2_0)) + 1)) (wrap64 ((l0.length : Int) - 1)) a2_0 a2_1) else (none)) else (none)) else (none)) else (none))) else (none)) else (none)) = some (r1, r2) := by first | (rw [hji6] at H; exact H) | (simp only [hji6] at H ⊢; exact H)
 (try rw [hji6] at A4)
 have hji6w : (IntKind.i64.wrap ((l0.length : Int) + 1)) = ji6 := (i64_w _).trans hji6
 by_cases c7 : 0 ≤ (ji6)
 rotate_left
 · rw [if_neg c7] at H
   exact absurd H (by simp)
 rw [if_pos c7] at H
 have c7b0 := eq_true c7
 have c7b1 : decide (0 ≤ (ji6)) = true := decide_eq_true c7
 clear c7
 by_cases c8 : (ji6 : Int).toNat ≤ 11728124029610
 rotate_left
 · rw [if_neg c8] at H
   exact absurd H (by simp)
 rw [if_pos c8] at H
 have c8b0 := eq_true c8
 have c8b1 : decide ((ji6 : Int).toNat ≤ 11728124029610) = true := decide_eq_true c8
 clear c8
 obtain ⟨y152, hy152⟩ : ∃ y_ : List (List Int), y_ = (List.replicate (ji6 : Int).toNat []) := ⟨_, rfl⟩
 replace H : (if 0 ≤ (wrap64 ((wrap64 (a2_1 - a2_0)) + 1)) then (if (wrap64 ((wrap64 (a2_1 - a2_0)) + 1) : Int).toNat ≤ 35184372088832 then (if 0 ≤ (l0.length : Int) then (if (l0.length : Int) < (y152.length : Int) then (legal_Row.l0 k l0 l1 (y152.set ((l0.length : Int) : Int).toNat (List.replicate (wrap64 ((wrap64 (a2_1 - a2_0)) + 1) : Int).toNat 0)) (wrap64 ((wrap64 (a2_1 - a2_0)) + 1)) (wrap64 ((l0.length : Int) - 1)) a2_0 a2_1) else (none)) else (none)) else (none)) else (none)) = some (r1, r2) := by first | (rw [hy152]; with_reducible exact H) | (have H2_ := (Option.bind_some _ _).symm.trans H; rw [hy152]; with_reducible exact H2_) | (have H2_ := (Option.bind_some _ _).symm.trans H; with_reducible exact H2_) | with_reducible exact H | (rw [hy152]; exact H) | exact H
 have Ny152 := Aside0.mk hy152
 clear hy152
 obtain ⟨ji9, hji9⟩ : ∃ j_ : Int, (wrap64 ((wrap64 (a2_1 - a2_0)) + 1)) = j_ := ⟨_, rfl⟩
 replace H : (if 0 ≤ (ji9) then (if (ji9 : Int).toNat ≤ 35184372088832 then (if 0 ≤ (l0.length : Int) then (if (l0.length : Int) < (y152.length : Int) then (legal_Row.l0 k l0 l1 (y152.set ((l0.length : Int) : Int).toNat (List.replicate (ji9 : Int).toNat 0)) ji9 (wrap64 ((l0.length : Int) - 1)) a2_0 a2_1) else (none)) else (none)) else (none)) else (none)) = some (r1, r2) := by first | (rw [hji9] at H; exact H) | (simp only [hji9] at H ⊢; exact H)
 (try rw [hji9] at A4)
 have hji9w : (IntKind.i64.wrap ((wrap64 (a2_1 - a2_0)) + 1)) = ji9 := (i64_w _).trans hji9
 by_cases c10 : 0 ≤ (ji9)
 rotate_left
 · rw [if_neg c10] at H
   exact absurd H (by simp)
 rw [if_pos c10] at H
 have c10b0 := eq_true c10
 have c10b1 : decide (0 ≤ (ji9)) = true := decide_eq_true c10
 clear c10
 by_cases c11 : (ji9 : Int).toNat ≤ 35184372088832
 rotate_left
 · rw [if_neg c11] at H
   exact absurd H (by simp)
 rw [if_pos c11] at H
 have c11b0 := eq_true c11
 have c11b1 : decide ((ji9 : Int).toNat ≤ 35184372088832) = true := decide_eq_true c11
 clear c11
 obtain ⟨y155, hy155⟩ : ∃ y_ : List Int, y_ = (List.replicate (ji9 : Int).toNat 0) := ⟨_, rfl⟩
 replace H : (if 0 ≤ (l0.length : Int) then (if (l0.length : Int) < (y152.length : Int) then (legal_Row.l0 k l0 l1 (y152.set ((l0.length : Int) : Int).toNat y155) ji9 (wrap64 ((l0.length : Int) - 1)) a2_0 a2_1) else (none)) else (none)) = some (r1, r2) := by first | (rw [hy155]; with_reducible exact H) | (have H2_ := (Option.bind_some _ _).symm.trans H; rw [hy155]; with_reducible exact H2_) | (have H2_ := (Option.bind_some _ _).symm.trans H; with_reducible exact H2_) | with_reducible exact H | (rw [hy155]; exact H) | exact H
 have Ny155 := Aside0.mk hy155
 clear hy155
 by_cases c12 : 0 ≤ (l0.length : Int)
 rotate_left
 · rw [if_neg c12] at H
   exact absurd H (by simp)
 rw [if_pos c12] at H
 have c12b0 : decide (0 ≤ (l0.length : Int)) = true := decide_eq_true c12
 have c12b1 : decide (0 ≤ l0.length) = true := decide_eq_true (by omega)
 clear c12
 by_cases c13 : (l0.length : Int) < (y152.length : Int)
 rotate_left
 · rw [if_neg c13] at H
   exact absurd H (by simp)
 rw [if_pos c13] at H
 have c13b0 : decide ((l0.length : Int) < (y152.length : Int)) = true := decide_eq_true c13
 have c13b1 : decide (l0.length < y152.length) = true := decide_eq_true (Int.ofNat_lt.mp c13)
 clear c13
 obtain ⟨y158, hy158⟩ : ∃ y_ : List (List Int), y_ = (y152.set ((l0.length : Int) : Int).toNat y155) := ⟨_, rfl⟩
 replace H : (legal_Row.l0 k l0 l1 y158 ji9 (wrap64 ((l0.length : Int) - 1)) a2_0 a2_1) = some (r1, r2) := by first | (rw [hy158]; with_reducible exact H) | (have H2_ := (Option.bind_some _ _).symm.trans H; rw [hy158]; with_reducible exact H2_) | (have H2_ := (Option.bind_some _ _).symm.trans H; with_reducible exact H2_) | with_reducible exact H | (rw [hy158]; exact H) | exact H
 have Ny158 := Aside0.mk hy158
 clear hy158
 have H' := Aside0.mk H
 clear H
 go_enter Try.func32, Try.ntmps32
 go_wp2_with (first | ((with_reducible refine gate_dst (N := 5) rfl ?_); refine box_event ?hg (N := 5) ?hd (cs := #[.int .i64 a2_0, .int .i64 a2_1]) (t := 62) ?hr ?_; (case hd => rfl); (case hg => rfl); (case hr => first | (go_simp; done) | (go_simp; rfl) | (obtain ⟨Av_, cv_, ev_⟩ := Kd.R_slice HO157.out; rw [ev_]; (try simp only [Int.toNat_natCast] at hx14_0 hf14_0); first | (go_simp; done) | (go_simp; rfl))); intro gb150 hg w15 hbox hb; have n0_ := Aside0.mk (below_step (by repeat (first | (with_reducible first | exact HB.out | apply below_alloc | apply pw_below_drewN | apply below_drew1) | exact HB.out)) hb); have n1_ := Aside0.mk (hbox); have n2_ := Aside0.mk ((by rw [hg]; exact (below_size (by repeat (first | (with_reducible first | exact HB.out | apply below_alloc | apply pw_below_drewN | apply below_drew1) | exact HB.out))) : w.heap.size ≤ gb150)); have n3_ := Aside0.mk ((by rw [hg]; exact (below_size (by repeat (first | (with_reducible first | exact HB.out | apply below_alloc | apply pw_below_drewN | apply below_drew1) | exact HB.out))) : w.heap.size ≤ gb150)); clear HB; have HB := n0_; have BK150 := n1_; clear n0_ n1_ n2_ n3_; clear hb hbox hg; have hcz16_0 : w15.cell? ⟨gb150, 0, none⟩ = some (.int .i64 a2_0) := (blk_cell BK150.out 0).trans rfl; have hcz16_1 : w15.cell? ⟨gb150, 1, none⟩ = some (.int .i64 a2_1) := (blk_cell BK150.out 1).trans rfl; have hfz16_0 := blk_frozen BK150.out 0; have hfz16_1 := blk_frozen BK150.out 1) | ((with_reducible refine gate_callee (f := 54) rfl ?_); refine goesL_ (some 24) rfl rfl Try.func54 (by kernel_rfl) rfl #[.slice A0 l0.length c0, .slice A1 l1.length c1, .agg #[.int .i64 a2_0, .int .i64 a2_1]] rfl (by (try simp only [List.map_toArray, List.map_cons, List.map_nil]); first | done | rfl | (simp only [List.length_drop, List.length_take]; rfl)) ?_; (with_reducible refine (legal_checkRow.calls k _ _ l0 _ _ l1 a2_0 a2_1 t151 _ ?side1 ?side2 ?side3 ?side4 A4.out).mono ?_); (case side1 => repeat (first | exact (Kd.C_below HR0.out HB.out) | (with_reducible refine Kd.C_alloc ?_ _) | (with_reducible refine Kd.C_drewN ?_ _) | (with_reducible refine Kd.C_drew ?_))); (case side2 => exact HC0.out); (case side3 => repeat (first | exact (Kd.C_below HR1.out HB.out) | (with_reducible refine Kd.C_alloc ?_ _) | (with_reducible refine Kd.C_drewN ?_ _) | (with_reducible refine Kd.C_drew ?_))); (case side4 => exact HC1.out); rintro e w17 ⟨rfl, hb⟩; refine ⟨_, rfl, ?_⟩; have n0_ := Aside0.mk (blk_below (g := gb150) (o := .cells #[.int .i64 a2_0, .int .i64 a2_1] 62 (0, 0)) (by (with_reducible repeat (first | refine blk_drewN ?_ _ | refine blk_drew ?_ | refine blk_alloc ?_ _)); exact BK150.out) hb); have n1_ := Aside0.mk (below_step (by repeat (first | (with_reducible first | exact HB.out | apply below_alloc | apply pw_below_drewN | apply below_drew1 | refine below_set ?_ GE150.out) | exact HB.out)) hb); clear BK150; clear HB; have BK150 := n0_; have HB := n1_; clear n0_ n1_; (try clear hb); (try clear hb2); (try clear hk); (try clear hi)) | ((with_reducible refine gate_dst (N := 32) rfl ?_); refine Kd.S_make (Kd.slice 3 (Kd.int .i64)) _ 25 rfl (N := 32) rfl 106 _ _ rfl ji6 rfl rfl Try.underlying106 (.slice none 0 0) 24 info25 rfl (by decide) (by omega) [] (ok := fun _ => True) (okp := fun _ => True) ⟨_, rfl, Kd.R_nil _ _ _ _ _⟩ (fun _ hk => hk) trivial (of_decide_eq_true (by first | (with_reducible assumption) | assumption)) (Nat.le_trans (Nat.mul_le_mul_right _ (of_decide_eq_true (by first | (with_reducible assumption) | assumption) : ji6.toNat ≤ 11728124029610)) (by omega)) (Below.refl _ _) (Nat.le_refl _) ?_; intro v153 w18 ho19 hb hg_ hnew_; clear hg_ hnew_; (first | rw [← Ny152.out] at ho19 | (simp only [Int.reduceToNat] at ho19; rw [← Ny152.out] at ho19)); have n0_ := Aside0.mk (Kd.S_lower ho19 (below_size (by repeat (first | (with_reducible first | exact HB.out | apply below_alloc | apply pw_below_drewN | apply below_drew1 | refine below_set ?_ GE150.out) | exact HB.out)))); have n1_ := Aside0.mk (blk_below (g := gb150) (o := .cells #[.int .i64 a2_0, .int .i64 a2_1] 62 (0, 0)) (by (with_reducible repeat (first | refine blk_drewN ?_ _ | refine blk_drew ?_ | refine blk_alloc ?_ _)); exact BK150.out) hb); have n2_ := Aside0.mk (below_step (by repeat (first | (with_reducible first | exact HB.out | apply below_alloc | apply pw_below_drewN | apply below_drew1 | refine below_set ?_ GE150.out) | exact HB.out)) hb); clear BK150; clear HB; have HO154 := n0_; have BK150 := n1_; have HB := n2_; clear n0_ n1_ n2_; clear hb ho19; have hcz20_0 : w18.cell? ⟨gb150, 0, none⟩ = some (.int .i64 a2_0) := (blk_cell BK150.out 0).trans rfl; have hcz20_1 : w18.cell? ⟨gb150, 1, none⟩ = some (.int .i64 a2_1) := (blk_cell BK150.out 1).trans rfl; have hfz20_0 := blk_frozen BK150.out 0; have hfz20_1 := blk_frozen BK150.out 1) | ((with_reducible refine gate_dst (N := 42) rfl ?_); refine Kd.R_make (Kd.int .i64) _ 3 rfl (N := 42) rfl 25 _ _ rfl ji9 rfl rfl Try.underlying25 (.int .i64 0) 8 info3 rfl (by decide) (by omega) 0 (ok := fun _ => True) (okp := fun _ => True) rfl (fun _ hk => hk) trivial (of_decide_eq_true (by first | (with_reducible assumption) | assumption)) (Nat.le_trans (Nat.mul_le_mul_right _ (of_decide_eq_true (by first | (with_reducible assumption) | assumption) : ji9.toNat ≤ 35184372088832)) (by omega)) (Below.refl _ _) (Nat.le_refl _) ?_; intro v156 w21 ho22 hb hg_ hnew_; clear hg_ hnew_; (first | rw [← Ny155.out] at ho22 | (simp only [Int.reduceToNat] at ho22; rw [← Ny155.out] at ho22)); have n0_ := Aside0.mk (Kd.S_elder' (by (with_reducible repeat (first | apply Kd.S_alloc | apply Kd.S_drewN | apply Kd.S_drew)); exact HO154.out) (Kd.R_base ho22) hb); have n1_ := Aside0.mk (Kd.R_lower ho22 (below_size (by repeat (first | (with_reducible first | exact HB.out | apply below_alloc | apply pw_below_drewN | apply below_drew1 | refine below_set ?_ GE150.out) | exact HB.out)))); have n2_ := Aside0.mk (blk_below (g := gb150) (o := .cells #[.int .i64 a2_0, .int .i64 a2_1] 62 (0, 0)) (by (with_reducible repeat (first | refine blk_drewN ?_ _ | refine blk_drew ?_ | refine blk_alloc ?_ _)); exact BK150.out) hb); have n3_ := Aside0.mk (below_step (by repeat (first | (with_reducible first | exact HB.out | apply below_alloc | apply pw_below_drewN | apply below_drew1 | refine below_set ?_ GE150.out) | exact HB.out)) hb); clear HO154; clear BK150; clear HB; have HO154 := n0_; have HO157 := n1_; have BK150 := n2_; have HB := n3_; clear n0_ n1_ n2_ n3_; clear hb ho22; have p14 : 0 ≤ ((l0.length : Int) : Int) := of_decide_eq_true (by first | (with_reducible assumption) | assumption); have q14 : ((l0.length : Int) : Int) < ((y152.length : Int) : Int) := of_decide_eq_true (by first | (with_reducible assumption) | assumption); obtain ⟨go14, co14, eo14, gb14, gl14, cl14, HG14⟩ := Kd.S_form HO154.out (by omega); (first | cases eo14 | (injection eo14 with ea_ en_ ec_; (first | subst ea_ | (injection ea_ with ea_; subst ea_)); subst ec_; clear en_)); have GB14 := Aside0.mk gb14; clear gb14 gl14 HG14; obtain ⟨_, ce14, hcl14, hM14, hcc14, hfr14, _, _⟩ := Kd.S_elem HO154.out [] ((l0.length : Int) : Int) p14 q14; obtain ⟨ve14_0, rfl, ge14_0⟩ := hM14; have hx14_0 := hcc14 0 _ rfl; have hf14_0 := hfr14 0; (try simp only [show ((Kd.slice 3 (Kd.int .i64))).sz = 1 from rfl, Nat.mul_one, Nat.add_zero] at hx14_0); (try simp only [show ((Kd.slice 3 (Kd.int .i64))).sz = 1 from rfl, Nat.mul_one, Nat.add_zero] at hf14_0); clear hcl14 hcc14 hfr14; replace p14 := eq_true p14; replace q14 := eq_true q14; have n_ := Aside0.mk (Kd.S_mono (ok' := (fun k_ => some k_ ≠ (v156 : Value).ownBlock)) HO154.out (fun k_ hk => hk.2)); clear HO154; have HO154 := n_; clear n_; have HX23 := Aside0.mk (show Kd.S (Kd.slice 3 (Kd.int .i64)) 25 w21 w.heap.size (fun k_ => ((fun _ => True)) k_ ∧ ¬ ((fun k_ => some k_ = (v156 : Value).ownBlock)) k_) (.slice (some ⟨go14, 0, none⟩) y152.length co14) y152 from (by (with_reducible repeat (first | apply Kd.S_alloc | apply Kd.S_drewN | apply Kd.S_drew)); exact Kd.S_mono HO154.out (fun k_ hk => ⟨trivial, fun e_ => hk e_⟩))); obtain ⟨oki23, ce23, hcl23, hM23, hcc23, hfr23, hoki23, hH23⟩ := Kd.S_elem HX23.out [] ((l0.length : Int) : Int) (of_decide_eq_true (by first | (with_reducible assumption) | assumption)) (by have h_ : ((l0.length : Int) : Int) < ((y152.length : Int) : Int) := of_decide_eq_true (by first | (with_reducible assumption) | assumption); first | exact h_ | (have e_ := (Kd.S_reads' HO154.out).1; omega) | simpa using h_); obtain ⟨ve23_0, rfl, ge23_0⟩ := hM23; have HP23 := Kd.S_seg hH23 (of_decide_eq_true (by first | (with_reducible assumption) | assumption)) (by have h_ : ((l0.length : Int) : Int) < ((y152.length : Int) : Int) := of_decide_eq_true (by first | (with_reducible assumption) | assumption); first | exact h_ | (have e_ := (Kd.S_reads' HO154.out).1; omega) | simpa using h_) (seg := [v156]) (j := 0) (show 1 ≤ 1 from by decide) (x' := y155) (Kd.M_row (Kd.R_mono (Kd.R_tight rfl (Kd.R_mono (ok' := fun k_ => ((fun _ => True)) k_ ∧ k_ ≠ go14) (Kd.R_apart' (HO157.out) (Kd.S_typed HO154.out) (by decide)) (fun k_ hk => ⟨trivial, fun e_ => (hk.2) (by rw [e_]; rfl)⟩))) (fun _ h_ => Or.inr (h_)))) (fun _ hk => hk) (fun k_ hk_ => ((Kd.R_mono (ok' := fun k_ => ((fun _ => True)) k_ ∧ k_ ≠ go14) (Kd.R_apart' (HO157.out) (Kd.S_typed HO154.out) (by decide)) (fun k_ hk => ⟨trivial, fun e_ => (hk.2) (by rw [e_]; rfl)⟩))).1 k_ hk_.symm); have hx23_0 := hcc23 0 _ rfl; (try simp only [show ((Kd.slice 3 (Kd.int .i64))).sz = 1 from rfl, Nat.mul_one, Nat.add_zero] at hx23_0); have hf23_0 := hfr23 0; (try simp only [show ((Kd.slice 3 (Kd.int .i64))).sz = 1 from rfl, Nat.mul_one, Nat.add_zero] at hf23_0); clear hcl23 hcc23 hfr23 hoki23 hH23; (try simp only [show ((Kd.slice 3 (Kd.int .i64))).sz = 1 from rfl, Nat.mul_one, Nat.add_zero] at HP23)) | ((with_reducible refine gate_store (t := 25) (p := 43) rfl ?_); refine store_event (t := 25) (p := 43) (v := ?vo_w24) (w1 := (w21.setCell ⟨go14, ((l0.length : Int) : Int).toNat, none⟩ (v156))) ?hg ?ho ?hn ?hr ?_; (case ho => rfl); (case hg => rfl); (case hn => rfl); (case hr => first | (go_simp; done) | (go_simp; rfl) | (obtain ⟨Av_, cv_, ev_⟩ := Kd.R_slice HO157.out; rw [ev_]; (try simp only [Int.toNat_natCast] at hx14_0 hf14_0); first | (go_simp; done) | (go_simp; rfl))); intro w24 hw; have hg : w21.grownBy w24 (some go14) := (by rw [hw]; exact HP23.2); have hp_ : Kd.S (Kd.slice 3 (Kd.int .i64)) 25 w24 w.heap.size (fun _ => True) (.slice (some ⟨go14, 0, none⟩) y152.length co14) y158 := (by rw [hw, Ny158.out]; exact HP23.1); clear HP23; have n0_ := Aside0.mk (blk_grown (g := gb150) (o := .cells #[.int .i64 a2_0, .int .i64 a2_1] 62 (0, 0)) (by (with_reducible repeat (first | refine blk_drewN ?_ _ | refine blk_drew ?_ | refine blk_alloc ?_ _)); exact BK150.out) hg (Kd.S_ne HO154.out BK150.out (by decide))); have n1_ := Aside0.mk (hp_); have n2_ := Aside0.mk ((by rw [hw]; exact below_set (HB.out) GB14.out : Below w.heap.size w w24)); clear BK150; clear HO154; clear HB; clear HO157; have BK150 := n0_; have HO154 := n1_; have HB := n2_; clear n0_ n1_ n2_; clear hg hw hp_))
 go_loopg [12] k (fun kq v12 w' => ∃ (x10_1 : List (List Int)) (x12_1 : Int), v12 = .int .i64 x12_1 ∧ Aside0 (legal_Row.l0 kq l0 l1 x10_1 ji9 x12_1 a2_0 a2_1 = some (r1, r2)) ∧ Aside0 (kq ≤ k) ∧ Aside0 (Kd.S (Kd.slice 3 (Kd.int .i64)) 25 w' w.heap.size (fun _ => True) (.slice (some ⟨go14, 0, none⟩) y152.length co14) x10_1) ∧ Aside0 (w'.heap[gb150]? = some (.cells #[.int .i64 a2_0, .int .i64 a2_1] 62 (0, 0))) ∧ Aside0 (Below w.heap.size w w'))
 case atStart => exact ⟨(y158), (wrap64 ((l0.length : Int) - 1)), (by first | rfl | (simp; done) | (simp [*]; done)), H', ⟨Nat.le_refl _⟩, ⟨by (with_reducible repeat (first | apply Kd.S_alloc | apply Kd.S_drewN | apply Kd.S_drew)); exact HO154.out⟩, ⟨by (with_reducible repeat (first | refine blk_drewN ?_ _ | refine blk_drew ?_ | refine blk_alloc ?_ _)); exact BK150.out⟩, ⟨by repeat (first | (with_reducible first | exact HB.out | apply below_alloc | apply pw_below_drewN | apply below_drew1 | refine below_set ?_ GE150.out) | exact HB.out)⟩⟩
 clear H'
 clear c5b0 c5b1 c7b0 c7b1 c8b0 c8b1 c10b0 c10b1 c11b0 c11b1 c12b0 c12b1 c13b0 c13b1 p14 q14 hcz16_0 hcz16_1 hcz20_0 hcz20_1 hfz16_0 hfz16_1 hfz20_0 hfz20_1 hx14_0 hx23_0
 obtain ⟨x10_1, x12_1, rfl, HA, HK1, HO_10, BK150, HB⟩ := hrel
 have hl10_1 := (Kd.S_reads' HO_10.out).1
 rw [hl10_1] at HO_10
 (try simp only [hl10_1])
 (try simp only [hl10_1] at BK150)
 cases gk with
 | zero => exact absurd HA.out (by simp [legal_Row.l0])
 | succ k1 =>
  have H := HA.out
  clear HA
  simp only [legal_Row.l0] at H
  by_cases c25 : x12_1 ≥ 0
  rotate_left
  · rw [if_neg c25] at H
    have c25b0 : decide (0 ≤ x12_1) = false := decide_eq_false c25
    clear c25
    have H' := Aside0.mk H
    clear H
    go_wp2
    go_loopg [16, 17, 138] k1 (fun kq v16 v17 v138 w' => ∃ (x16_2 : List Int) (x17_2 : Int) (x138_2 : Int), v17 = .int .i64 x17_2 ∧ v138 = .int .i64 x138_2 ∧ Aside0 (legal_Row.l2 kq l0 l1 x10_1 x16_2 x17_2 (l0.length : Int) x138_2 a2_0 a2_1 = some (r1, r2)) ∧ Aside0 (kq ≤ k1) ∧ Aside0 (Kd.S (Kd.slice 3 (Kd.int .i64)) 25 w' w.heap.size (fun k_ => some k_ ≠ (v16 : Value).ownBlock) (.slice (some ⟨go14, 0, none⟩) x10_1.length co14) x10_1) ∧ Aside0 (Kd.R (Kd.int .i64) 3 w' w.heap.size (fun _ => True) v16 x16_2) ∧ Aside0 (w'.heap[gb150]? = some (.cells #[.int .i64 a2_0, .int .i64 a2_1] 62 (0, 0))) ∧ Aside0 (Below w.heap.size w w'))
    case atStart => exact ⟨(([] : List Int)), (0), (0), (by first | rfl | (simp; done) | (simp [*]; done)), (by first | rfl | (simp; done) | (simp [*]; done)), H', ⟨Nat.le_refl _⟩, ⟨by (try simp only [hl10_1]); (with_reducible repeat (first | apply Kd.S_alloc | apply Kd.S_drewN | apply Kd.S_drew)); exact Kd.S_mono HO_10.out (fun _ hk => (by simp [Value.ownBlock]))⟩, ⟨by (try simp only [hl10_1]); first | exact Kd.R_nil _ _ _ _ _ | exact Kd.N_nil _ _ _ _ _ | exact Kd.V_nil _ _ _ _ _ | exact Kd.Q_nil _ _ _ _ _ | exact Kd.S_nil _ _ _ _ _⟩, ⟨by (try simp only [hl10_1]); (with_reducible repeat (first | refine blk_drewN ?_ _ | refine blk_drew ?_ | refine blk_alloc ?_ _)); exact BK150.out⟩, ⟨by repeat (first | (with_reducible first | exact HB.out | apply below_alloc | apply pw_below_drewN | apply below_drew1 | refine below_set ?_ GE150.out) | exact HB.out)⟩⟩
    clear H'
    clear c25b0
    obtain ⟨x16_2, x17_2, x138_2, rfl, rfl, HA, HK2, HO_10, HO_16, BK150, HB⟩ := hrel
    cases gk with
    | zero => exact absurd HA.out (by simp [legal_Row.l2])
    | succ k2 =>
     have H := HA.out
     clear HA
     simp only [legal_Row.l2] at H
     by_cases c76 : x138_2 < (l0.length : Int)
     rotate_left
     · rw [if_neg c76] at H
       have c76b0 : decide (x138_2 < (l0.length : Int)) = false := decide_eq_false c76
       clear c76
       simp only [Option.some.injEq, Prod.mk.injEq] at H
       obtain ⟨rfl, rfl⟩ := H
       go_wp2
       go_ret2
       exact ⟨_, by first | rfl | (simp [errW_none, errW_some] <;> rfl) | (simp only [← hji6, ← hji9]; first | rfl | (simp [errW_none, errW_some] <;> rfl)) | (simp [*, errW_none, errW_some] <;> rfl), by (with_reducible repeat (first | apply Kd.R_alloc | apply Kd.R_drewN | apply Kd.R_drew)); exact HO_16.out, by repeat (first | (with_reducible first | exact HB.out | apply below_alloc | apply pw_below_drewN | apply below_drew1 | refine below_set ?_ GE150.out) | exact HB.out)⟩
     rw [if_pos c76] at H
     have c76b0 : decide (x138_2 < (l0.length : Int)) = true := decide_eq_true c76
     clear c76
     have H' := Aside0.mk H
     clear H
     go_wp2
     go_loopg [17] k2 (fun kq v17 w' => ∃ (x17_3 : Int), v17 = .int .i64 x17_3 ∧ Aside0 (legal_Row.l3 kq l0 l1 x10_1 x16_2 x17_3 x138_2 (l0.length : Int) x138_2 a2_0 a2_1 = some (r1, r2)) ∧ Aside0 (kq ≤ k2) ∧ Aside0 (Kd.S (Kd.slice 3 (Kd.int .i64)) 25 w' w.heap.size (fun k_ => some k_ ≠ (u16 : Value).ownBlock) (.slice (some ⟨go14, 0, none⟩) x10_1.length co14) x10_1) ∧ Aside0 (Kd.R (Kd.int .i64) 3 w' w.heap.size (fun _ => True) u16 x16_2) ∧ Aside0 (w'.heap[gb150]? = some (.cells #[.int .i64 a2_0, .int .i64 a2_1] 62 (0, 0))) ∧ Aside0 (Below w.heap.size w w'))
     case atStart => exact ⟨(x17_2), (by first | rfl | (simp; done) | (simp [*]; done)), H', ⟨Nat.le_refl _⟩, ⟨by (try simp only [hl10_1]); (with_reducible repeat (first | apply Kd.S_alloc | apply Kd.S_drewN | apply Kd.S_drew)); exact HO_10.out⟩, ⟨by (try simp only [hl10_1]); (with_reducible repeat (first | apply Kd.R_alloc | apply Kd.R_drewN | apply Kd.R_drew)); exact HO_16.out⟩, ⟨by (try simp only [hl10_1]); (with_reducible repeat (first | refine blk_drewN ?_ _ | refine blk_drew ?_ | refine blk_alloc ?_ _)); exact BK150.out⟩, ⟨by repeat (first | (with_reducible first | exact HB.out | apply below_alloc | apply pw_below_drewN | apply below_drew1 | refine below_set ?_ GE150.out) | exact HB.out)⟩⟩
     clear H'
     clear c76b0
     obtain ⟨x17_3, rfl, HA, HK3, HO_10, HO_16, BK150, HB⟩ := hrel
     cases gk with
     | zero => exact absurd HA.out (by simp [legal_Row.l3])
     | succ k3 =>
      have H := HA.out
      clear HA
      simp only [legal_Row.l3] at H
      by_cases c77 : 0 ≤ x138_2
      rotate_left
      · rw [if_neg c77] at H
        exact absurd H (by simp)
      rw [if_pos c77] at H
      have c77b0 : decide (0 ≤ x138_2) = true := decide_eq_true c77
      clear c77
      by_cases c78 : x138_2 < (l0.length : Int)
      rotate_left
      · rw [if_neg c78] at H
        exact absurd H (by simp)
      rw [if_pos c78] at H
      have c78b0 : decide (x138_2 < (l0.length : Int)) = true := decide_eq_true c78
      clear c78
      by_cases c79 : x138_2 < (l1.length : Int)
      rotate_left
      · rw [if_neg c79] at H
        exact absurd H (by simp)
      rw [if_pos c79] at H
      have c79b0 : decide (x138_2 < (l1.length : Int)) = true := decide_eq_true c79
      clear c79
      obtain ⟨ji80, hji80⟩ : ∃ j_ : Int, (wrap64 (x138_2 + 1)) = j_ := ⟨_, rfl⟩
      replace H : (if 0 ≤ (ji80) then (if (ji80) < (x10_1.length : Int) then ((legal_cost.f (rd l0 x138_2) (rd l1 x138_2) (wrap64 (a2_0 + x17_3)) (rd_L6 x10_1 (ji80)) a2_0 a2_1).bind fun bt189 => (if bt189.2 = true then (if x138_2 < (x10_1.length : Int) then (if 0 ≤ x17_3 then (if x17_3 < ((rd_L6 x10_1 x138_2).length : Int) then (legal_Row.j6 k3 l0 l1 x10_1 x16_2 x17_3 x138_2 (l0.length : Int) x138_2 (bt189.1 == (rd (rd_L6 x10_1 x138_2) x17_3)) a2_0 a2_1) else (none)) else (none)) else (none)) else (legal_Row.j6 k3 l0 l1 x10_1 x16_2 x17_3 x138_2 (l0.length : Int) x138_2 false a2_0 a2_1))) else (none)) else (none)) = some (r1, r2) := by first | (rw [hji80] at H; exact H) | (simp only [hji80] at H ⊢; exact H)
      have hji80w : (IntKind.i64.wrap (x138_2 + 1)) = ji80 := (i64_w _).trans hji80
      by_cases c81 : 0 ≤ (ji80)
      rotate_left
      · rw [if_neg c81] at H
        exact absurd H (by simp)
      rw [if_pos c81] at H
      have c81b0 : decide (0 ≤ (ji80)) = true := decide_eq_true c81
      clear c81
      by_cases c82 : (ji80) < (x10_1.length : Int)
      rotate_left
      · rw [if_neg c82] at H
        exact absurd H (by simp)
      rw [if_pos c82] at H
      have c82b0 : decide ((ji80) < (x10_1.length : Int)) = true := decide_eq_true c82
      clear c82
      replace H := Option.bind_eq_some_iff.mp H
      obtain ⟨⟨t189, t190⟩, A830, H⟩ := H
      replace H : (if t190 = true then (if x138_2 < (x10_1.length : Int) then (if 0 ≤ x17_3 then (if x17_3 < ((rd_L6 x10_1 x138_2).length : Int) then (legal_Row.j6 k3 l0 l1 x10_1 x16_2 x17_3 x138_2 (l0.length : Int) x138_2 (t189 == (rd (rd_L6 x10_1 x138_2) x17_3)) a2_0 a2_1) else (none)) else (none)) else (none)) else (legal_Row.j6 k3 l0 l1 x10_1 x16_2 x17_3 x138_2 (l0.length : Int) x138_2 false a2_0 a2_1)) = some (r1, r2) := H
      have A83 := Aside0.mk A830
      clear A830
      have HC84 := Aside0.mk H
      clear H
      try go_wp2
      have n0_ := Aside0.mk (Kd.S_drew HO_10.out)
      have n1_ := Aside0.mk (Kd.R_drew HO_16.out)
      have n2_ := Aside0.mk (blk_drew BK150.out)
      have n3_ := Aside0.mk (below_drew1 HB.out)
      clear HO_10
      clear HO_16
      clear BK150
      clear HB
      have HO_10 := n0_
      have HO_16 := n1_
      have BK150 := n2_
      have HB := n3_
      clear n0_ n1_ n2_ n3_
      have p186 : 0 ≤ (x138_2 : Int) := of_decide_eq_true (by first | (with_reducible assumption) | assumption)
      have q186 : x138_2 < (l0.length : Int) := of_decide_eq_true (by first | (with_reducible assumption) | assumption)
      obtain ⟨ad186, e186, hx186_0⟩ := Kd.at_int HR0.out x138_2 p186 q186
      have hw186_0 := hx186_0
      cases e186
      replace hx186_0 := (HB.out.cell (World.block_lt_of_cell? w _ hx186_0)).trans hx186_0
      replace p186 := eq_true p186
      replace q186 := eq_true q186
      have p187 : 0 ≤ (x138_2 : Int) := of_decide_eq_true (by first | (with_reducible assumption) | assumption)
      have q187 : x138_2 < (l1.length : Int) := of_decide_eq_true (by first | (with_reducible assumption) | assumption)
      obtain ⟨ad187, e187, hx187_0⟩ := Kd.at_int HR1.out x138_2 p187 q187
      have hw187_0 := hx187_0
      cases e187
      replace hx187_0 := (HB.out.cell (World.block_lt_of_cell? w _ hx187_0)).trans hx187_0
      replace p187 := eq_true p187
      replace q187 := eq_true q187
      have p188 : 0 ≤ ((ji80) : Int) := of_decide_eq_true (by first | (with_reducible assumption) | assumption)
      have q188 : (ji80) < (x10_1.length : Int) := of_decide_eq_true (by first | (with_reducible assumption) | assumption)
      obtain ⟨ad188, A188_0, c188_0, e188, hx188_0, hl188_0, hi188_0⟩ := at_L6 (Kd.S_reads' HO_10.out).2.2 (ji80) p188 q188
      obtain rfl : (⟨go14, 0, none⟩ : Addr) = ad188 := (by injection e188)
      obtain ⟨ce188, hce188, hMe188, hcc188⟩ := Kd.S_get HO_10.out [] (ji80) p188 (by first | exact q188 | exact of_decide_eq_true (by first | (with_reducible assumption) | assumption) | (have e_ := (Kd.S_reads' HO_10.out).1; omega))
      obtain ⟨ve188_0, rfl, ge188_0⟩ := hMe188
      have hv188_0 := hcc188 0 _ rfl
      rw [Nat.add_zero, show ((Kd.slice 3 (Kd.int .i64))).sz = 1 from rfl, Nat.mul_one] at hv188_0
      replace hv188_0 := Option.some.inj (hv188_0.symm.trans hx188_0)
      rw [hv188_0] at ge188_0
      have HL188_0 := Aside0.mk (show Kd.R (Kd.int .i64) 3 _ _ _ _ (rd_L6 x10_1 (ji80)) from ge188_0)
      clear hv188_0 ge188_0
      have HX188_0 := Aside0.mk hx188_0
      clear hcc188 hce188
      (first | simp only [add_plain] at hx188_0 | simp only [add_at] at hx188_0 | simp only [Addr.add, Nat.zero_add] at hx188_0 | skip)
      have HR188_0 := Aside0.mk hi188_0
      have HC188_0 := Aside0.mk hl188_0
      clear hi188_0 hl188_0
      replace p188 := eq_true p188
      replace q188 := eq_true q188
      refine start_ (n := 24) (S := fun w' => w'.cell? ⟨gb150, 0, none⟩ = some (.int .i64 a2_0) ∧ w'.cell? ⟨gb150, 1, none⟩ = some (.int .i64 a2_1) ∧ w'.cell? (ad186.add (x138_2).toNat) = some (.int .i64 (rd l0 x138_2)) ∧ w'.cell? (ad187.add (x138_2).toNat) = some (.int .i64 (rd l1 x138_2)) ∧ w'.cell? ⟨go14, ((ji80)).toNat, none⟩ = some (.slice A188_0 (rd_L6 x10_1 (ji80)).length c188_0)) (ds := []) (zb 0 24) (by kernel_rfl) rfl rfl ⟨(blk_cell BK150.out 0).trans rfl, (blk_cell BK150.out 1).trans rfl, ((HB.out.cell (World.block_lt_of_cell? w _ hw186_0)).trans hw186_0), ((HB.out.cell (World.block_lt_of_cell? w _ hw187_0)).trans hw187_0), hx188_0⟩ (fun hHeld => ?_); refine with_tabW legal_Row.tab26 legal_Row.bits26 (fun HT_ HW_ => ?_)
      generalize wr.drew = w85 at HO_10 HO_16 BK150 HB HL188_0 HR188_0 HX188_0 hx186_0 hx187_0 hx188_0 hHeld ⊢
      refine pure_ (i := 0) (N := some 142) (v := ?_) (a' := ?_) (zb 1 23) rfl rfl (any_of HT_.out (by kernel_rfl)) (fun _ _ _ h => h) (Or.inl ⟨by rfl, ?_⟩) ?_ ?_
      rotate_left; focus (intro w'; go_simp; with_reducible rfl)
      rotate_left; focus (simp only [Act.put, z1, z2, z3, i64_w, i32_w]; rfl)
      refine pure_ (i := 1) (N := some 143) (v := ?_) (a' := ?_) (zb 2 22) rfl rfl (any_of HT_.out (by kernel_rfl)) (fun _ _ _ h => h) (Or.inl ⟨by rfl, ?_⟩) ?_ ?_
      rotate_left; focus (intro w'; go_simp; with_reducible rfl)
      rotate_left; focus (simp only [Act.put, z1, z2, z3, i64_w, i32_w]; rfl)
      refine pure_ (i := 2) (N := some 144) (v := ?_) (a' := ?_) (zb 3 21) rfl rfl (any_of HT_.out (by kernel_rfl)) (fun _ _ _ h => h) (Or.inl ⟨by rfl, ?_⟩) ?_ ?_
      rotate_left; focus (intro w'; go_simp; with_reducible rfl)
      rotate_left; focus (simp only [Act.put, z1, z2, z3, i64_w, i32_w]; rfl)
      refine pure_ (i := 4) (N := some 146) (v := ?_) (a' := ?_) #[true,true,true,false,true,false,false,false,false,false,false,false,false,false,false,false,false,false,false,false,false,false,false,false] rfl rfl (any_of HT_.out (by kernel_rfl)) (fun _ _ _ h => h) (Or.inl ⟨by rfl, ?_⟩) ?_ ?_
      rotate_left; focus (intro w'; go_simp; with_reducible rfl)
      rotate_left; focus (simp only [Act.put, z1, z2, z3, i64_w, i32_w]; rfl)
      refine pure_ (i := 5) (N := some 147) (v := ?_) (a' := ?_) #[true,true,true,false,true,true,false,false,false,false,false,false,false,false,false,false,false,false,false,false,false,false,false,false] rfl rfl (any_of HT_.out (by kernel_rfl)) (fun _ _ _ h => h) (Or.inl ⟨by rfl, ?_⟩) ?_ ?_
      rotate_left; focus (intro w'; go_simp; with_reducible rfl)
      rotate_left; focus (simp only [Act.put, z1, z2, z3, i64_w, i32_w]; rfl)
      refine pure_ (i := 6) (N := some 148) (v := ?_) (a' := ?_) #[true,true,true,false,true,true,true,false,false,false,false,false,false,false,false,false,false,false,false,false,false,false,false,false] rfl rfl (any_of HT_.out (by kernel_rfl)) (fun _ _ _ h => h) (Or.inl ⟨by rfl, ?_⟩) ?_ ?_
      rotate_left; focus (intro w'; go_simp; with_reducible rfl)
      rotate_left; focus (simp only [Act.put, z1, z2, z3, i64_w, i32_w]; rfl)
      refine pure_ (i := 8) (N := some 150) (v := ?_) (a' := ?_) #[true,true,true,false,true,true,true,false,true,false,false,false,false,false,false,false,false,false,false,false,false,false,false,false] rfl rfl (any_of HT_.out (by kernel_rfl)) (fun _ _ _ h => h) (Or.inl ⟨by rfl, ?_⟩) ?_ ?_
      rotate_left; focus (intro w'; go_simp; with_reducible rfl)
      rotate_left; focus (simp only [Act.put, z1, z2, z3, i64_w, i32_w]; rfl)
      refine pure_ (i := 10) (N := some 152) (v := ?_) (a' := ?_) #[true,true,true,false,true,true,true,false,true,false,true,false,false,false,false,false,false,false,false,false,false,false,false,false] rfl rfl (any_of HT_.out (by kernel_rfl)) (fun _ _ _ h => h) (Or.inl ⟨by rfl, ?_⟩) ?_ ?_
      rotate_left; focus (intro w'; go_simp; with_reducible rfl)
      rotate_left; focus (simp only [Act.put, z1, z2, z3, i64_w, i32_w]; rfl)
      refine pure_ (i := 12) (N := some 154) (v := ?_) (a' := ?_) #[true,true,true,false,true,true,true,false,true,false,true,false,true,false,false,false,false,false,false,false,false,false,false,false] rfl rfl (any_of HT_.out (by kernel_rfl)) (fun _ _ _ h => h) (Or.inl ⟨by rfl, ?_⟩) ?_ ?_
      rotate_left; focus (intro w'; go_simp; with_reducible rfl)
      rotate_left; focus (simp only [Act.put, z1, z2, z3, i64_w, i32_w]; rfl)
      refine pure_ (i := 13) (N := some 155) (v := ?_) (a' := ?_) #[true,true,true,false,true,true,true,false,true,false,true,false,true,true,false,false,false,false,false,false,false,false,false,false] rfl rfl (any_of HT_.out (by kernel_rfl)) (fun _ _ _ h => h) (Or.inl ⟨by rfl, ?_⟩) ?_ ?_
      rotate_left; focus (intro w'; go_simp; with_reducible rfl)
      rotate_left; focus (simp only [Act.put, z1, z2, z3, i64_w, i32_w]; rfl)
      refine pure_ (i := 14) (N := some 156) (v := ?_) (a' := ?_) #[true,true,true,false,true,true,true,false,true,false,true,false,true,true,true,false,false,false,false,false,false,false,false,false] rfl rfl (any_of HT_.out (by kernel_rfl)) (fun _ _ _ h => h) (Or.inl ⟨by rfl, ?_⟩) ?_ ?_
      rotate_left; focus (intro w'; go_simp; with_reducible rfl)
      rotate_left; focus (simp only [Act.put, z1, z2, z3, i64_w, i32_w]; rfl)
      refine pure_ (i := 15) (N := some 157) (v := ?_) (a' := ?_) #[true,true,true,false,true,true,true,false,true,false,true,false,true,true,true,true,false,false,false,false,false,false,false,false] rfl rfl (any_of HT_.out (by kernel_rfl)) (fun _ _ _ h => h) (Or.inl ⟨by rfl, ?_⟩) ?_ ?_
      rotate_left; focus (intro w'; go_simp; with_reducible rfl)
      rotate_left; focus (simp only [Act.put, z1, z2, z3, i64_w, i32_w]; rfl)
      refine take_ (i := 3) (N := some 145) (v := ?_) (a' := ?_) #[true,true,true,true,true,true,true,false,true,false,true,false,true,true,true,true,false,false,false,false,false,false,false,false] rfl rfl (take_ofW HT_.out HW_.out (by kernel_rfl)) (fun _ _ _ h => h) (Or.inl ⟨by rfl, ?_⟩) hHeld ?_ ?_
      rotate_left
      · rintro w' ⟨s0, s1, s2, s3, s4⟩
        go_simp
        with_reducible rfl
      rotate_left; focus (simp only [Act.put, z1, z2, z3, i64_w, i32_w]; rfl)
      refine take_ (i := 7) (N := some 149) (v := ?_) (a' := ?_) #[true,true,true,true,true,true,true,true,true,false,true,false,true,true,true,true,false,false,false,false,false,false,false,false] rfl rfl (take_ofW HT_.out HW_.out (by kernel_rfl)) (fun _ _ _ h => h) (Or.inl ⟨by rfl, ?_⟩) hHeld ?_ ?_
      rotate_left
      · rintro w' ⟨s0, s1, s2, s3, s4⟩
        go_simp
        with_reducible rfl
      rotate_left; focus (simp only [Act.put, z1, z2, z3, i64_w, i32_w]; rfl)
      refine take_ (i := 9) (N := some 151) (v := ?_) (a' := ?_) #[true,true,true,true,true,true,true,true,true,true,true,false,true,true,true,true,false,false,false,false,false,false,false,false] rfl rfl (take_ofW HT_.out HW_.out (by kernel_rfl)) (fun _ _ _ h => h) (Or.inl ⟨by rfl, ?_⟩) hHeld ?_ ?_
      rotate_left
      · rintro w' ⟨s0, s1, s2, s3, s4⟩
        go_simp
        with_reducible rfl
      rotate_left; focus (simp only [Act.put, z1, z2, z3, i64_w, i32_w]; rfl)
      refine pure_ (i := 11) (N := some 153) (v := ?_) (a' := ?_) (zb 16 8) rfl rfl (any_of HT_.out (by kernel_rfl)) (fun _ _ _ h => h) (Or.inl ⟨by rfl, ?_⟩) ?_ ?_
      rotate_left; focus (intro w'; go_simp; with_reducible rfl)
      rotate_left; focus (simp only [Act.put, z1, z2, z3, i64_w, i32_w]; rfl)
      refine take_ (i := 16) (N := some 158) (v := ?_) (a' := ?_) (zb 17 7) rfl rfl (take_ofW HT_.out HW_.out (by kernel_rfl)) (fun _ _ _ h => h) (Or.inl ⟨by rfl, ?_⟩) hHeld ?_ ?_
      rotate_left
      · rintro w' ⟨s0, s1, s2, s3, s4⟩
        go_simp
        with_reducible rfl
      rotate_left; focus (simp only [Act.put, z1, z2, z3, i64_w, i32_w]; rfl)
      refine take_ (i := 17) (N := some 159) (v := ?_) (a' := ?_) (zb 18 6) rfl rfl (take_ofW HT_.out HW_.out (by kernel_rfl)) (fun _ _ _ h => h) (Or.inl ⟨by rfl, ?_⟩) hHeld ?_ ?_
      rotate_left
      · rintro w' ⟨s0, s1, s2, s3, s4⟩
        go_simp
        with_reducible rfl
      rotate_left; focus (simp only [Act.put, z1, z2, z3, i64_w, i32_w]; rfl)
      refine one_ (i := 18) (N := some 160) (zb 19 5) rfl rfl (one_of HT_.out (by kernel_rfl)) (by decide) (fun K hK => ?_)
      refine goes_ Try.func55 (by kernel_rfl) rfl #[.int .i64 (rd l0 x138_2), .int .i64 (rd l1 x138_2), .int .i64 (wrap64 (a2_0 + x17_3)), .slice A188_0 (rd_L6 x10_1 (ji80)).length c188_0, .agg #[.int .i64 a2_0, .int .i64 a2_1]] (by rfl) rfl rfl (by (try simp only [List.map_toArray, List.map_cons, List.map_nil]); first | done | (simp only [hji80]; rfl) | rfl | (simp only [List.length_drop, List.length_take]; rfl)) ?_
      with_reducible refine (legal_cost.calls (rd l0 x138_2) (rd l1 x138_2) (wrap64 (a2_0 + x17_3)) _ _ (rd_L6 x10_1 (ji80)) a2_0 a2_1 t189 t190 _ ?side1 ?side2 A83.out).mono ?_
      (case side1 => repeat (first | exact (by repeat (first | (with_reducible exact HR188_0.out) | (with_reducible refine Kd.C_alloc ?_ _) | (with_reducible refine Kd.C_drewN ?_ _) | (with_reducible refine Kd.C_drew ?_) | exact HR188_0.out)) | (with_reducible refine Kd.C_alloc ?_ _) | (with_reducible refine Kd.C_drewN ?_ _) | (with_reducible refine Kd.C_drew ?_)))
      (case side2 => exact HC188_0.out)
      rintro e w86 ⟨rfl, hb⟩
      have HS4_ := (hb.cell (World.block_lt_of_cell? _ _ (hHeld.2.2.2.2))).trans (hHeld.2.2.2.2)
      refine ⟨_, rfl, ?_⟩
      have n0_ := Aside0.mk (Kd.S_below (by (with_reducible repeat (first | apply Kd.S_alloc | apply Kd.S_drewN | apply Kd.S_drew)); exact HO_10.out) hb)
      have n1_ := Aside0.mk (Kd.R_below (by (with_reducible repeat (first | apply Kd.R_alloc | apply Kd.R_drewN | apply Kd.R_drew)); exact HO_16.out) hb)
      have n2_ := Aside0.mk (Kd.R_below (by (with_reducible repeat (first | apply Kd.R_alloc | apply Kd.R_drewN | apply Kd.R_drew)); exact HL188_0.out) hb)
      have n3_ := Aside0.mk (blk_below (g := gb150) (o := .cells #[.int .i64 a2_0, .int .i64 a2_1] 62 (0, 0)) (by (with_reducible repeat (first | refine blk_drewN ?_ _ | refine blk_drew ?_ | refine blk_alloc ?_ _)); exact BK150.out) hb)
      have n4_ := Aside0.mk (Kd.C_below (by repeat (first | (with_reducible exact HR188_0.out) | (with_reducible refine Kd.C_alloc ?_ _) | (with_reducible refine Kd.C_drewN ?_ _) | (with_reducible refine Kd.C_drew ?_) | exact HR188_0.out)) hb)
      have n5_ := Aside0.mk (pw_cell_below hb HX188_0.out)
      have n6_ := Aside0.mk (below_step (by repeat (first | (with_reducible first | exact HB.out | apply below_alloc | apply pw_below_drewN | apply below_drew1 | refine below_set ?_ GE150.out) | exact HB.out)) hb)
      clear HO_10
      clear HO_16
      clear HL188_0
      clear BK150
      clear HR188_0
      clear HX188_0
      clear HB
      have HO_10 := n0_
      have HO_16 := n1_
      have BK150 := n3_
      have HR188_0 := n4_
      have HB := n6_
      clear n0_ n1_ n2_ n3_ n4_ n5_ n6_
      (try clear hb)
      (try clear hb2)
      (try clear hk)
      (try clear hi)
      refine hK.out _ _ ⟨(blk_cell BK150.out 0).trans rfl, (blk_cell BK150.out 1).trans rfl, ((HB.out.cell (World.block_lt_of_cell? w _ hw186_0)).trans hw186_0), ((HB.out.cell (World.block_lt_of_cell? w _ hw187_0)).trans hw187_0), HS4_⟩ (fun hHeld => ?_)
      clear hK K
      refine norm_ (a' := ?_) ?_ ?_
      rotate_left; focus (show Act.put _ (some 160) _ = _; simp only [Act.put, z1, z2, z3, i64_w, i32_w]; rfl)
      refine pure_ (i := 19) (N := some 141) (v := ?_) (a' := ?_) (zb 20 4) rfl rfl (any_of HT_.out (by kernel_rfl)) (fun _ _ _ h => h) (Or.inl ⟨by rfl, ?_⟩) ?_ ?_
      rotate_left; focus (intro w'; go_simp; with_reducible rfl)
      rotate_left; focus (simp only [Act.put, z1, z2, z3, i64_w, i32_w]; rfl)
      refine pure_ (i := 20) (N := some 161) (v := ?_) (a' := ?_) (zb 21 3) rfl rfl (any_of HT_.out (by kernel_rfl)) (fun _ _ _ h => h) (Or.inl ⟨by rfl, ?_⟩) ?_ ?_
      rotate_left; focus (intro w'; go_simp; with_reducible rfl)
      rotate_left; focus (simp only [Act.put, z1, z2, z3, i64_w, i32_w]; rfl)
      refine pure_ (i := 21) (N := some 162) (v := ?_) (a' := ?_) (zb 22 2) rfl rfl (any_of HT_.out (by kernel_rfl)) (fun _ _ _ h => h) (Or.inl ⟨by rfl, ?_⟩) ?_ ?_
      rotate_left; focus (intro w'; go_simp; with_reducible rfl)
      rotate_left; focus (simp only [Act.put, z1, z2, z3, i64_w, i32_w]; rfl)
      refine pure_ (i := 22) (N := some 19) (v := ?_) (a' := ?_) (zb 23 1) rfl rfl (any_of HT_.out (by kernel_rfl)) (fun _ _ _ h => h) (Or.inl ⟨by rfl, ?_⟩) ?_ ?_
      rotate_left; focus (intro w'; go_simp; with_reducible rfl)
      rotate_left; focus (simp only [Act.put, z1, z2, z3, i64_w, i32_w]; rfl)
      refine pure_ (i := 23) (N := some 20) (v := ?_) (a' := ?_) (zb 24 0) rfl rfl (any_of HT_.out (by kernel_rfl)) (fun _ _ _ h => h) (Or.inl ⟨by rfl, ?_⟩) ?_ ?_
      rotate_left; focus (intro w'; go_simp; with_reducible rfl)
      rotate_left; focus (simp only [Act.put, z1, z2, z3, i64_w, i32_w]; rfl)
      refine done_ (done_of HT_.out (by kernel_rfl)) ?_
      go_upto_region 27 with (fail)
      go_cut [174] (fun v174 wc => ∃ (kq : Nat) (x174_83 : Bool), v174 = .bool x174_83 ∧ Aside0 (legal_Row.j6 kq l0 l1 x10_1 x16_2 x17_3 x138_2 (l0.length : Int) x138_2 x174_83 a2_0 a2_1 = some (r1, r2)) ∧ Aside0 (kq ≤ k3) ∧ Aside0 (Kd.S (Kd.slice 3 (Kd.int .i64)) 25 wc w.heap.size (fun k_ => some k_ ≠ (u16 : Value).ownBlock) (.slice (some ⟨go14, 0, none⟩) x10_1.length co14) x10_1) ∧ Aside0 (Kd.R (Kd.int .i64) 3 wc w.heap.size (fun _ => True) u16 x16_2) ∧ Aside0 (wc.heap[gb150]? = some (.cells #[.int .i64 a2_0, .int .i64 a2_1] 62 (0, 0))) ∧ Aside0 (Kd.C (Kd.int .i64) wc A188_0 (rd_L6 x10_1 (ji80)).length (rd_L6 x10_1 (ji80))) ∧ Aside0 (Below w.heap.size w wc))
      case first =>
       have H := HC84.out
       clear HC84
       by_cases c87 : t190 = true
       rotate_left
       · replace c87 := Bool.eq_false_iff.mpr c87
         subst c87
         have H1 : (legal_Row.j6 k3 l0 l1 x10_1 x16_2 x17_3 x138_2 (l0.length : Int) x138_2 false a2_0 a2_1) = some (r1, r2) := by rw [if_neg (show ¬ (false = true) by decide)] at H; exact H
         clear H
         have H := H1
         clear H1
         have H' := Aside0.mk H
         clear H
         go_wp2
         go_meet
         case rel => exact ⟨_, (false), (by first | rfl | (simp; done) | (simp [*]; done)), H', ⟨by have := HK1.out; have := HK2.out; have := HK3.out; first | omega | exact Nat.le_refl _⟩, ⟨by (try simp only [hl10_1]); (with_reducible repeat (first | apply Kd.S_alloc | apply Kd.S_drewN | apply Kd.S_drew)); exact HO_10.out⟩, ⟨by (try simp only [hl10_1]); (with_reducible repeat (first | apply Kd.R_alloc | apply Kd.R_drewN | apply Kd.R_drew)); exact HO_16.out⟩, ⟨by (try simp only [hl10_1]); (with_reducible repeat (first | refine blk_drewN ?_ _ | refine blk_drew ?_ | refine blk_alloc ?_ _)); exact BK150.out⟩, ⟨by repeat (first | (with_reducible exact HR188_0.out) | (with_reducible refine Kd.C_alloc ?_ _) | (with_reducible refine Kd.C_drewN ?_ _) | (with_reducible refine Kd.C_drew ?_) | exact HR188_0.out)⟩, ⟨by repeat (first | (with_reducible first | exact HB.out | apply below_alloc | apply pw_below_drewN | apply below_drew1 | refine below_set ?_ GE150.out) | exact HB.out)⟩⟩
       subst c87
       have H1 : (if x138_2 < (x10_1.length : Int) then (if 0 ≤ x17_3 then (if x17_3 < ((rd_L6 x10_1 x138_2).length : Int) then (legal_Row.j6 k3 l0 l1 x10_1 x16_2 x17_3 x138_2 (l0.length : Int) x138_2 (t189 == (rd (rd_L6 x10_1 x138_2) x17_3)) a2_0 a2_1) else (none)) else (none)) else (none)) = some (r1, r2) := by rw [if_pos rfl] at H; exact H
       clear H
       have H := H1
       clear H1
       by_cases c88 : x138_2 < (x10_1.length : Int)
       rotate_left
       · rw [if_neg c88] at H
         exact absurd H (by simp)
       rw [if_pos c88] at H
       have c88b0 : decide (x138_2 < (x10_1.length : Int)) = true := decide_eq_true c88
       clear c88
       (first | rw [c88b0] | (simp only [i64_w, i32_w]; rw [c88b0]) | skip)
       by_cases c89 : 0 ≤ x17_3
       rotate_left
       · rw [if_neg c89] at H
         exact absurd H (by simp)
       rw [if_pos c89] at H
       have c89b0 : decide (0 ≤ x17_3) = true := decide_eq_true c89
       clear c89
       by_cases c90 : x17_3 < ((rd_L6 x10_1 x138_2).length : Int)
       rotate_left
       · rw [if_neg c90] at H
         exact absurd H (by simp)
       rw [if_pos c90] at H
       have c90b0 : decide (x17_3 < ((rd_L6 x10_1 x138_2).length : Int)) = true := decide_eq_true c90
       clear c90
       have H' := Aside0.mk H
       clear H
       have p191 : 0 ≤ (x138_2 : Int) := of_decide_eq_true (by first | (with_reducible assumption) | assumption)
       have q191 : x138_2 < (x10_1.length : Int) := of_decide_eq_true (by first | (with_reducible assumption) | assumption)
       obtain ⟨ad191, A191_0, c191_0, e191, hx191_0, hl191_0, hi191_0⟩ := at_L6 (Kd.S_reads' HO_10.out).2.2 x138_2 p191 q191
       obtain rfl : (⟨go14, 0, none⟩ : Addr) = ad191 := (by injection e191)
       obtain ⟨ce191, hce191, hMe191, hcc191⟩ := Kd.S_get HO_10.out [] x138_2 p191 (by first | exact q191 | exact of_decide_eq_true (by first | (with_reducible assumption) | assumption) | (have e_ := (Kd.S_reads' HO_10.out).1; omega))
       obtain ⟨ve191_0, rfl, ge191_0⟩ := hMe191
       have hv191_0 := hcc191 0 _ rfl
       rw [Nat.add_zero, show ((Kd.slice 3 (Kd.int .i64))).sz = 1 from rfl, Nat.mul_one] at hv191_0
       replace hv191_0 := Option.some.inj (hv191_0.symm.trans hx191_0)
       rw [hv191_0] at ge191_0
       have HL191_0 := Aside0.mk (show Kd.R (Kd.int .i64) 3 _ _ _ _ (rd_L6 x10_1 x138_2) from ge191_0)
       clear hv191_0 ge191_0
       have HX191_0 := Aside0.mk hx191_0
       clear hcc191 hce191
       (first | simp only [add_plain] at hx191_0 | simp only [add_at] at hx191_0 | simp only [Addr.add, Nat.zero_add] at hx191_0 | skip)
       have HR191_0 := Aside0.mk hi191_0
       clear hi191_0 hl191_0
       replace p191 := eq_true p191
       replace q191 := eq_true q191
       have p192 : 0 ≤ (x17_3 : Int) := of_decide_eq_true (by first | (with_reducible assumption) | assumption)
       have q192 : x17_3 < ((rd_L6 x10_1 x138_2).length : Int) := of_decide_eq_true (by first | (with_reducible assumption) | assumption)
       obtain ⟨ad192, e192, hx192_0⟩ := Kd.at_int (by repeat (first | (with_reducible exact HR191_0.out) | (with_reducible refine Kd.C_alloc ?_ _) | (with_reducible refine Kd.C_drewN ?_ _) | (with_reducible refine Kd.C_drew ?_) | exact HR191_0.out)) x17_3 p192 q192
       cases e192
       replace p192 := eq_true p192
       replace q192 := eq_true q192
       go_wp2
       go_meet
       case rel => exact ⟨_, ((t189 == (rd (rd_L6 x10_1 x138_2) x17_3))), (by first | rfl | (simp; done) | (simp [*]; done)), H', ⟨by have := HK1.out; have := HK2.out; have := HK3.out; first | omega | exact Nat.le_refl _⟩, ⟨by (try simp only [hl10_1]); (with_reducible repeat (first | apply Kd.S_alloc | apply Kd.S_drewN | apply Kd.S_drew)); exact HO_10.out⟩, ⟨by (try simp only [hl10_1]); (with_reducible repeat (first | apply Kd.R_alloc | apply Kd.R_drewN | apply Kd.R_drew)); exact HO_16.out⟩, ⟨by (try simp only [hl10_1]); (with_reducible repeat (first | refine blk_drewN ?_ _ | refine blk_drew ?_ | refine blk_alloc ?_ _)); exact BK150.out⟩, ⟨by repeat (first | (with_reducible exact HR188_0.out) | (with_reducible refine Kd.C_alloc ?_ _) | (with_reducible refine Kd.C_drewN ?_ _) | (with_reducible refine Kd.C_drew ?_) | exact HR188_0.out)⟩, ⟨by repeat (first | (with_reducible first | exact HB.out | apply below_alloc | apply pw_below_drewN | apply below_drew1 | refine below_set ?_ GE150.out) | exact HB.out)⟩⟩
      clear HC84
      clear c77b0 c78b0 c79b0 c81b0 c82b0 hx186_0 hx187_0 hx188_0 p186 p187 p188 q186 q187 q188
      obtain ⟨kq, x174_83, rfl, HA, HJ83, HO_10, HO_16, BK150, HR188_0, HB⟩ := hcut
      cases kq with
      | zero => exact absurd HA.out (by simp [legal_Row.j6])
      | succ kj83 =>
       have H := HA.out
       clear HA
       simp only [legal_Row.j6] at H
       by_cases c91 : x174_83 = true
       rotate_left
       · replace c91 := Bool.eq_false_iff.mpr c91
         subst c91
         have H1 : (legal_Row.l3 kj83 l0 l1 x10_1 x16_2 (wrap64 (x17_3 + 1)) x138_2 (l0.length : Int) x138_2 a2_0 a2_1) = some (r1, r2) := by rw [if_neg (show ¬ (false = true) by decide)] at H; exact H
         clear H
         have H := H1
         clear H1
         have H' := Aside0.mk H
         clear H
         go_wp2
         go_roundg kj83
         case measure => have := HK1.out; have := HK2.out; have := HK3.out; have := HJ83.out; omega
         case rel => exact ⟨(wrap64 (x17_3 + 1)), (by first | rfl | (simp; done) | (simp [*]; done)), H', ⟨by have := HK1.out; have := HK2.out; have := HK3.out; have := HJ83.out; omega⟩, ⟨by (try simp only [hl10_1]); (with_reducible repeat (first | apply Kd.S_alloc | apply Kd.S_drewN | apply Kd.S_drew)); exact HO_10.out⟩, ⟨by (try simp only [hl10_1]); (with_reducible repeat (first | apply Kd.R_alloc | apply Kd.R_drewN | apply Kd.R_drew)); exact HO_16.out⟩, ⟨by (try simp only [hl10_1]); (with_reducible repeat (first | refine blk_drewN ?_ _ | refine blk_drew ?_ | refine blk_alloc ?_ _)); exact BK150.out⟩, ⟨by repeat (first | (with_reducible first | exact HB.out | apply below_alloc | apply pw_below_drewN | apply below_drew1 | refine below_set ?_ GE150.out) | exact HB.out)⟩⟩
       subst c91
       have H1 : (if x16_2.length < 17592186044416 then (if 0 ≤ x138_2 then (if x138_2 < (l1.length : Int) then (legal_Row.l2 kj83 l0 l1 x10_1 (x16_2 ++ [wrap64 (a2_0 + x17_3)]) (wrap64 (x17_3 + (rd l1 x138_2))) (l0.length : Int) (wrap64 (x138_2 + 1)) a2_0 a2_1) else (none)) else (none)) else (none)) = some (r1, r2) := by rw [if_pos rfl] at H; exact H
       clear H
       have H := H1
       clear H1
       by_cases c92 : x16_2.length < 17592186044416
       rotate_left
       · rw [if_neg c92] at H
         exact absurd H (by simp)
       rw [if_pos c92] at H
       have LMc92 := Aside0.mk c92
       clear c92
       obtain ⟨y193, hy193⟩ : ∃ y_ : List Int, y_ = (x16_2 ++ [wrap64 (a2_0 + x17_3)]) := ⟨_, rfl⟩
       replace H : (if 0 ≤ x138_2 then (if x138_2 < (l1.length : Int) then (legal_Row.l2 kj83 l0 l1 x10_1 y193 (wrap64 (x17_3 + (rd l1 x138_2))) (l0.length : Int) (wrap64 (x138_2 + 1)) a2_0 a2_1) else (none)) else (none)) = some (r1, r2) := by first | (rw [hy193]; with_reducible exact H) | (have H2_ := (Option.bind_some _ _).symm.trans H; rw [hy193]; with_reducible exact H2_) | (have H2_ := (Option.bind_some _ _).symm.trans H; with_reducible exact H2_) | with_reducible exact H | (rw [hy193]; exact H) | exact H
       have Ny193 := Aside0.mk hy193
       clear hy193
       by_cases c93 : 0 ≤ x138_2
       rotate_left
       · rw [if_neg c93] at H
         exact absurd H (by simp)
       rw [if_pos c93] at H
       have c93b0 : decide (0 ≤ x138_2) = true := decide_eq_true c93
       clear c93
       by_cases c94 : x138_2 < (l1.length : Int)
       rotate_left
       · rw [if_neg c94] at H
         exact absurd H (by simp)
       rw [if_pos c94] at H
       have c94b0 : decide (x138_2 < (l1.length : Int)) = true := decide_eq_true c94
       clear c94
       have H' := Aside0.mk H
       clear H
       have hcz95_0 : wc.cell? ⟨gb150, 0, none⟩ = some (.int .i64 a2_0) := (blk_cell BK150.out 0).trans rfl
       go_wp2_with ((with_reducible refine gate_builtin (b := .append) (xs := #[.tmp 177, .tmp 182]) rfl ?_); at_builtin; refine Kd.R_append (Kd.int .i64) (w0 := w) w.heap.size rfl (.tmp 177) (.tmp 182) 25 3 (.int .i64 0) 8 rfl Try.underlying25 info3 rfl (by decide) (by omega) u16 x16_2 (wrap64 (a2_0 + x17_3)) [.int .i64 (wrap64 (a2_0 + x17_3))] (fun _ => True) (fun _ => False) rfl rfl ?aP (fun _ hk => hk.elim) ?aF ?aO ?aB ?aS ?aL ?_; (case aP => exact rfl); (case aB => exact (by repeat (first | (with_reducible first | exact HB.out | apply below_alloc | apply pw_below_drewN | apply below_drew1 | refine below_set ?_ GE150.out) | exact HB.out))); (case aF => exact (fun _ _ => trivial)); (case aO => exact (by (with_reducible repeat (first | apply Kd.R_alloc | apply Kd.R_drewN | apply Kd.R_drew)); exact HO_16.out)); (case aS => exact (below_size (by repeat (first | (with_reducible first | exact HB.out | apply below_alloc | apply pw_below_drewN | apply below_drew1 | refine below_set ?_ GE150.out) | exact HB.out)))); (case aL => have := LMc92.out; omega); intro v194 w96 ho hb hg hat; rw [← Ny193.out] at ho; have n0_ := Aside0.mk (Kd.S_after (ok := (fun _ => True)) (by (with_reducible repeat (first | apply Kd.S_alloc | apply Kd.S_drewN | apply Kd.S_drew)); exact Kd.S_mono HO_10.out (fun _ hk => ⟨trivial, hk⟩)) hg hat); have n1_ := Aside0.mk (blk_grown (g := gb150) (o := .cells #[.int .i64 a2_0, .int .i64 a2_1] 62 (0, 0)) (by (with_reducible repeat (first | refine blk_drewN ?_ _ | refine blk_drew ?_ | refine blk_alloc ?_ _)); exact BK150.out) hg (Kd.R_ne HO_16.out BK150.out (by decide))); have n2_ := Aside0.mk (hb); have n3_ := Aside0.mk (ho); clear HO_10; clear BK150; clear HB; clear HO_16; have HO_10 := n0_; have BK150 := n1_; have HB := n2_; have HO195 := n3_; clear n0_ n1_ n2_ n3_; clear ho hb hg hat; have p196 : 0 ≤ (x138_2 : Int) := of_decide_eq_true (by first | (with_reducible assumption) | assumption); have q196 : x138_2 < (l1.length : Int) := of_decide_eq_true (by first | (with_reducible assumption) | assumption); obtain ⟨ad196, e196, hx196_0⟩ := Kd.at_int HR1.out x138_2 p196 q196; obtain rfl : ad187 = ad196 := (by injection e196); replace hx196_0 := (HB.out.cell (World.block_lt_of_cell? w _ hx196_0)).trans hx196_0; replace p196 := eq_true p196; replace q196 := eq_true q196)
       go_roundg kj83
       case measure => have := HK1.out; have := HK2.out; have := HK3.out; have := HJ83.out; omega
       case rel => exact ⟨(y193), (wrap64 (x17_3 + (rd l1 x138_2))), (wrap64 (x138_2 + 1)), (by first | rfl | (simp; done) | (simp [*]; done)), (by first | rfl | (simp; done) | (simp [*]; done)), H', ⟨by have := HK1.out; have := HK2.out; have := HK3.out; have := HJ83.out; omega⟩, ⟨by (try simp only [hl10_1]); (with_reducible repeat (first | apply Kd.S_alloc | apply Kd.S_drewN | apply Kd.S_drew)); exact Kd.S_mono HO_10.out (fun _ hk => hk.2)⟩, ⟨by (try simp only [hl10_1]); (with_reducible repeat (first | apply Kd.R_alloc | apply Kd.R_drewN | apply Kd.R_drew)); exact HO195.out⟩, ⟨by (try simp only [hl10_1]); (with_reducible repeat (first | refine blk_drewN ?_ _ | refine blk_drew ?_ | refine blk_alloc ?_ _)); exact BK150.out⟩, ⟨by repeat (first | (with_reducible first | exact HB.out | apply below_alloc | apply pw_below_drewN | apply below_drew1 | refine below_set ?_ GE150.out) | exact HB.out)⟩⟩
  rw [if_pos c25] at H
  have c25b0 : decide (0 ≤ x12_1) = true := decide_eq_true c25
  clear c25
  by_cases c26 : 0 ≤ ji9
  rotate_left
  · rw [if_neg c26] at H
    exact absurd H (by simp)
  rw [if_pos c26] at H
  have c26b0 := eq_true c26
  have c26b1 : decide (0 ≤ ji9) = true := decide_eq_true c26
  clear c26
  by_cases c27 : (ji9 : Int).toNat ≤ 35184372088832
  rotate_left
  · rw [if_neg c27] at H
    exact absurd H (by simp)
  rw [if_pos c27] at H
  have c27b0 := eq_true c27
  have c27b1 : decide ((ji9 : Int).toNat ≤ 35184372088832) = true := decide_eq_true c27
  clear c27
  obtain ⟨y159, hy159⟩ : ∃ y_ : List Int, y_ = (List.replicate (ji9 : Int).toNat 0) := ⟨_, rfl⟩
  replace H : (if 0 ≤ x12_1 then (if x12_1 < (x10_1.length : Int) then (legal_Row.l1 k1 l0 l1 (x10_1.set (x12_1 : Int).toNat y159) ji9 x12_1 (wrap64 (ji9 - 1)) a2_0 a2_1) else (none)) else (none)) = some (r1, r2) := by first | (rw [hy159]; with_reducible exact H) | (have H2_ := (Option.bind_some _ _).symm.trans H; rw [hy159]; with_reducible exact H2_) | (have H2_ := (Option.bind_some _ _).symm.trans H; with_reducible exact H2_) | with_reducible exact H | (rw [hy159]; exact H) | exact H
  have Ny159 := Aside0.mk hy159
  clear hy159
  by_cases c28 : 0 ≤ x12_1
  rotate_left
  · rw [if_neg c28] at H
    exact absurd H (by simp)
  rw [if_pos c28] at H
  have c28b0 : decide (0 ≤ x12_1) = true := decide_eq_true c28
  clear c28
  by_cases c29 : x12_1 < (x10_1.length : Int)
  rotate_left
  · rw [if_neg c29] at H
    exact absurd H (by simp)
  rw [if_pos c29] at H
  have c29b0 : decide (x12_1 < (x10_1.length : Int)) = true := decide_eq_true c29
  clear c29
  obtain ⟨y162, hy162⟩ : ∃ y_ : List (List Int), y_ = (x10_1.set (x12_1 : Int).toNat y159) := ⟨_, rfl⟩
  replace H : (legal_Row.l1 k1 l0 l1 y162 ji9 x12_1 (wrap64 (ji9 - 1)) a2_0 a2_1) = some (r1, r2) := by first | (rw [hy162]; with_reducible exact H) | (have H2_ := (Option.bind_some _ _).symm.trans H; rw [hy162]; with_reducible exact H2_) | (have H2_ := (Option.bind_some _ _).symm.trans H; with_reducible exact H2_) | with_reducible exact H | (rw [hy162]; exact H) | exact H
  have Ny162 := Aside0.mk hy162
  clear hy162
  have H' := Aside0.mk H
  clear H
  go_wp2_with (first | ((with_reducible refine gate_dst (N := 53) rfl ?_); refine Kd.R_make (Kd.int .i64) _ 3 rfl (N := 53) rfl 25 _ _ rfl ji9 rfl rfl Try.underlying25 (.int .i64 0) 8 info3 rfl (by decide) (by omega) 0 (ok := fun _ => True) (okp := fun _ => True) rfl (fun _ hk => hk) trivial (of_decide_eq_true (by first | (with_reducible assumption) | assumption)) (Nat.le_trans (Nat.mul_le_mul_right _ (of_decide_eq_true (by first | (with_reducible assumption) | assumption) : ji9.toNat ≤ 35184372088832)) (by omega)) (Below.refl _ _) (Nat.le_refl _) ?_; intro v160 w31 ho32 hb hg_ hnew_; clear hg_ hnew_; (first | rw [← Ny159.out] at ho32 | (simp only [Int.reduceToNat] at ho32; rw [← Ny159.out] at ho32)); have n0_ := Aside0.mk (Kd.S_elder' (by (with_reducible repeat (first | apply Kd.S_alloc | apply Kd.S_drewN | apply Kd.S_drew)); exact HO_10.out) (Kd.R_base ho32) hb); have n1_ := Aside0.mk (Kd.R_lower ho32 (below_size (by repeat (first | (with_reducible first | exact HB.out | apply below_alloc | apply pw_below_drewN | apply below_drew1 | refine below_set ?_ GE150.out) | exact HB.out)))); have n2_ := Aside0.mk (blk_below (g := gb150) (o := .cells #[.int .i64 a2_0, .int .i64 a2_1] 62 (0, 0)) (by (with_reducible repeat (first | refine blk_drewN ?_ _ | refine blk_drew ?_ | refine blk_alloc ?_ _)); exact BK150.out) hb); have n3_ := Aside0.mk (below_step (by repeat (first | (with_reducible first | exact HB.out | apply below_alloc | apply pw_below_drewN | apply below_drew1 | refine below_set ?_ GE150.out) | exact HB.out)) hb); clear HO_10; clear BK150; clear HB; have HO_10 := n0_; have HO161 := n1_; have BK150 := n2_; have HB := n3_; clear n0_ n1_ n2_ n3_; clear hb ho32; have p30 : 0 ≤ (x12_1 : Int) := of_decide_eq_true (by first | (with_reducible assumption) | assumption); have q30 : (x12_1 : Int) < ((x10_1.length : Int) : Int) := of_decide_eq_true (by first | (with_reducible assumption) | assumption); obtain ⟨_, ce30, hcl30, hM30, hcc30, hfr30, _, _⟩ := Kd.S_elem HO_10.out [] (x12_1 : Int) p30 q30; obtain ⟨ve30_0, rfl, ge30_0⟩ := hM30; have hx30_0 := hcc30 0 _ rfl; have hf30_0 := hfr30 0; (try simp only [show ((Kd.slice 3 (Kd.int .i64))).sz = 1 from rfl, Nat.mul_one, Nat.add_zero] at hx30_0); (try simp only [show ((Kd.slice 3 (Kd.int .i64))).sz = 1 from rfl, Nat.mul_one, Nat.add_zero] at hf30_0); clear hcl30 hcc30 hfr30; replace p30 := eq_true p30; replace q30 := eq_true q30; have n_ := Aside0.mk (Kd.S_mono (ok' := (fun k_ => some k_ ≠ (v160 : Value).ownBlock)) HO_10.out (fun k_ hk => hk.2)); clear HO_10; have HO_10 := n_; clear n_; have HX33 := Aside0.mk (show Kd.S (Kd.slice 3 (Kd.int .i64)) 25 w31 w.heap.size (fun k_ => ((fun _ => True)) k_ ∧ ¬ ((fun k_ => some k_ = (v160 : Value).ownBlock)) k_) (.slice (some ⟨go14, 0, none⟩) x10_1.length co14) x10_1 from (by (with_reducible repeat (first | apply Kd.S_alloc | apply Kd.S_drewN | apply Kd.S_drew)); exact Kd.S_mono HO_10.out (fun k_ hk => ⟨trivial, fun e_ => hk e_⟩))); obtain ⟨oki33, ce33, hcl33, hM33, hcc33, hfr33, hoki33, hH33⟩ := Kd.S_elem HX33.out [] (x12_1 : Int) (of_decide_eq_true (by first | (with_reducible assumption) | assumption)) (by have h_ : (x12_1 : Int) < ((x10_1.length : Int) : Int) := of_decide_eq_true (by first | (with_reducible assumption) | assumption); first | exact h_ | (have e_ := (Kd.S_reads' HO_10.out).1; omega) | simpa using h_); obtain ⟨ve33_0, rfl, ge33_0⟩ := hM33; have HP33 := Kd.S_seg hH33 (of_decide_eq_true (by first | (with_reducible assumption) | assumption)) (by have h_ : (x12_1 : Int) < ((x10_1.length : Int) : Int) := of_decide_eq_true (by first | (with_reducible assumption) | assumption); first | exact h_ | (have e_ := (Kd.S_reads' HO_10.out).1; omega) | simpa using h_) (seg := [v160]) (j := 0) (show 1 ≤ 1 from by decide) (x' := y159) (Kd.M_row (Kd.R_mono (Kd.R_tight rfl (Kd.R_mono (ok' := fun k_ => ((fun _ => True)) k_ ∧ k_ ≠ go14) (Kd.R_apart' (HO161.out) (Kd.S_typed HO_10.out) (by decide)) (fun k_ hk => ⟨trivial, fun e_ => (hk.2) (by rw [e_]; rfl)⟩))) (fun _ h_ => Or.inr (h_)))) (fun _ hk => hk) (fun k_ hk_ => ((Kd.R_mono (ok' := fun k_ => ((fun _ => True)) k_ ∧ k_ ≠ go14) (Kd.R_apart' (HO161.out) (Kd.S_typed HO_10.out) (by decide)) (fun k_ hk => ⟨trivial, fun e_ => (hk.2) (by rw [e_]; rfl)⟩))).1 k_ hk_.symm); have hx33_0 := hcc33 0 _ rfl; (try simp only [show ((Kd.slice 3 (Kd.int .i64))).sz = 1 from rfl, Nat.mul_one, Nat.add_zero] at hx33_0); have hf33_0 := hfr33 0; (try simp only [show ((Kd.slice 3 (Kd.int .i64))).sz = 1 from rfl, Nat.mul_one, Nat.add_zero] at hf33_0); clear hcl33 hcc33 hfr33 hoki33 hH33; (try simp only [show ((Kd.slice 3 (Kd.int .i64))).sz = 1 from rfl, Nat.mul_one, Nat.add_zero] at HP33)) | ((with_reducible refine gate_store (t := 25) (p := 54) rfl ?_); refine store_event (t := 25) (p := 54) (v := ?vo_w34) (w1 := (w31.setCell ⟨go14, (x12_1 : Int).toNat, none⟩ (v160))) ?hg ?ho ?hn ?hr ?_; (case ho => rfl); (case hg => rfl); (case hn => rfl); (case hr => first | (go_simp; done) | (go_simp; rfl) | (obtain ⟨Av_, cv_, ev_⟩ := Kd.R_slice HO161.out; rw [ev_]; (try simp only [Int.toNat_natCast] at hx14_0 hf14_0); first | (go_simp; done) | (go_simp; rfl))); intro w34 hw; have hg : w31.grownBy w34 (some go14) := (by rw [hw]; exact HP33.2); have hp_ : Kd.S (Kd.slice 3 (Kd.int .i64)) 25 w34 w.heap.size (fun _ => True) (.slice (some ⟨go14, 0, none⟩) x10_1.length co14) y162 := (by rw [hw, Ny162.out]; exact HP33.1); clear HP33; have n0_ := Aside0.mk (hp_); have n1_ := Aside0.mk (blk_grown (g := gb150) (o := .cells #[.int .i64 a2_0, .int .i64 a2_1] 62 (0, 0)) (by (with_reducible repeat (first | refine blk_drewN ?_ _ | refine blk_drew ?_ | refine blk_alloc ?_ _)); exact BK150.out) hg (Kd.S_ne HO_10.out BK150.out (by decide))); have n2_ := Aside0.mk ((by rw [hw]; exact below_set (HB.out) GB14.out : Below w.heap.size w w34)); clear HO_10; clear BK150; clear HB; clear HO161; have HO_10 := n0_; have BK150 := n1_; have HB := n2_; clear n0_ n1_ n2_; clear hg hw hp_))
  go_loopg [13] k1 (fun kq v13 w' => ∃ (x10_2 : List (List Int)) (x13_2 : Int), v13 = .int .i64 x13_2 ∧ Aside0 (legal_Row.l1 kq l0 l1 x10_2 ji9 x12_1 x13_2 a2_0 a2_1 = some (r1, r2)) ∧ Aside0 (kq ≤ k1) ∧ Aside0 (Kd.S (Kd.slice 3 (Kd.int .i64)) 25 w' w.heap.size (fun _ => True) (.slice (some ⟨go14, 0, none⟩) x10_1.length co14) x10_2) ∧ Aside0 (w'.heap[gb150]? = some (.cells #[.int .i64 a2_0, .int .i64 a2_1] 62 (0, 0))) ∧ Aside0 (Below w.heap.size w w'))
  case atStart => exact ⟨(y162), (wrap64 (ji9 - 1)), (by first | rfl | (simp; done) | (simp only [← hji9] <;> (first | rfl | simp)) | (simp [*]; done)), H', ⟨Nat.le_refl _⟩, ⟨by (try simp only [hl10_1]); (with_reducible repeat (first | apply Kd.S_alloc | apply Kd.S_drewN | apply Kd.S_drew)); exact HO_10.out⟩, ⟨by (try simp only [hl10_1]); (with_reducible repeat (first | refine blk_drewN ?_ _ | refine blk_drew ?_ | refine blk_alloc ?_ _)); exact BK150.out⟩, ⟨by repeat (first | (with_reducible first | exact HB.out | apply below_alloc | apply pw_below_drewN | apply below_drew1 | refine below_set ?_ GE150.out) | exact HB.out)⟩⟩
  clear H'
  clear c25b0 c26b0 c26b1 c27b0 c27b1 c28b0 c29b0 p30 q30 hx30_0 hx33_0
  obtain ⟨x10_2, x13_2, rfl, HA, HK2, HO_10, BK150, HB⟩ := hrel
  have hl10_2 := (Kd.S_reads' HO_10.out).1
  rw [hl10_2] at HO_10
  (try simp only [hl10_2])
  (try simp only [hl10_2] at BK150)
  cases gk with
  | zero => exact absurd HA.out (by simp [legal_Row.l1])
  | succ k2 =>
   have H := HA.out
   clear HA
   simp only [legal_Row.l1] at H
   by_cases c35 : x13_2 ≥ 0
   rotate_left
   · rw [if_neg c35] at H
     have c35b0 : decide (0 ≤ x13_2) = false := decide_eq_false c35
     clear c35
     have H' := Aside0.mk H
     clear H
     go_wp2
     (try simp only [← hl10_1, ← hl10_2])
     go_roundg k2
     case measure => have := HK1.out; have := HK2.out; omega
     case rel => exact ⟨(x10_2), (wrap64 (x12_1 - 1)), (by first | rfl | (simp; done) | (simp [*]; done)), H', ⟨by have := HK1.out; have := HK2.out; omega⟩, ⟨by (try simp only [hl10_1]); (try simp only [hl10_2]); (with_reducible repeat (first | apply Kd.S_alloc | apply Kd.S_drewN | apply Kd.S_drew)); exact HO_10.out⟩, ⟨by (try simp only [hl10_1]); (try simp only [hl10_2]); (with_reducible repeat (first | refine blk_drewN ?_ _ | refine blk_drew ?_ | refine blk_alloc ?_ _)); exact BK150.out⟩, ⟨by repeat (first | (with_reducible first | exact HB.out | apply below_alloc | apply pw_below_drewN | apply below_drew1 | refine below_set ?_ GE150.out) | exact HB.out)⟩⟩
   rw [if_pos c35] at H
   have c35b0 : decide (0 ≤ x13_2) = true := decide_eq_true c35
   clear c35
   by_cases c36 : 0 ≤ x12_1
   rotate_left
   · rw [if_neg c36] at H
     exact absurd H (by simp)
   rw [if_pos c36] at H
   have c36b0 : decide (0 ≤ x12_1) = true := decide_eq_true c36
   clear c36
   by_cases c37 : x12_1 < (x10_2.length : Int)
   rotate_left
   · rw [if_neg c37] at H
     exact absurd H (by simp)
   rw [if_pos c37] at H
   have c37b0 : decide (x12_1 < (x10_2.length : Int)) = true := decide_eq_true c37
   clear c37
   by_cases c38 : 0 ≤ x13_2
   rotate_left
   · rw [if_neg c38] at H
     exact absurd H (by simp)
   rw [if_pos c38] at H
   have c38b0 : decide (0 ≤ x13_2) = true := decide_eq_true c38
   clear c38
   by_cases c39 : x13_2 < ((rd_L6 x10_2 x12_1).length : Int)
   rotate_left
   · rw [if_neg c39] at H
     exact absurd H (by simp)
   rw [if_pos c39] at H
   have c39b0 : decide (x13_2 < ((rd_L6 x10_2 x12_1).length : Int)) = true := decide_eq_true c39
   clear c39
   obtain ⟨y164, hy164⟩ : ∃ y_ : List Int, y_ = ((rd_L6 x10_2 x12_1).set (x13_2 : Int).toNat (-1)) := ⟨_, rfl⟩
   replace H : ((some (x10_2.set (x12_1 : Int).toNat y164 : List (List Int))).bind fun y166 => (if (wrap64 (x13_2 + 1)) < ji9 then (if 0 ≤ (wrap64 (x13_2 + 1)) then (if (wrap64 (x13_2 + 1)) < ((rd_L6 y166 x12_1).length : Int) then (if x13_2 < ((rd_L6 y166 x12_1).length : Int) then (legal_Row.j2 k2 l0 l1 (y166.set (x12_1 : Int).toNat ((rd_L6 y166 x12_1).set (x13_2 : Int).toNat (rd (rd_L6 y166 x12_1) (wrap64 (x13_2 + 1))))) ji9 x12_1 x13_2 a2_0 a2_1) else (none)) else (none)) else (none)) else (legal_Row.j2 k2 l0 l1 y166 ji9 x12_1 x13_2 a2_0 a2_1))) = some (r1, r2) := by first | (rw [hy164]; with_reducible exact H) | (have H2_ := (Option.bind_some _ _).symm.trans H; rw [hy164]; with_reducible exact H2_) | (have H2_ := (Option.bind_some _ _).symm.trans H; with_reducible exact H2_) | with_reducible exact H | (rw [hy164]; exact H) | exact H
   have Ny164 := Aside0.mk hy164
   clear hy164
   obtain ⟨y166, hy166⟩ : ∃ y_ : List (List Int), y_ = (x10_2.set (x12_1 : Int).toNat y164) := ⟨_, rfl⟩
   replace H : (if (wrap64 (x13_2 + 1)) < ji9 then (if 0 ≤ (wrap64 (x13_2 + 1)) then (if (wrap64 (x13_2 + 1)) < ((rd_L6 y166 x12_1).length : Int) then (if x13_2 < ((rd_L6 y166 x12_1).length : Int) then (legal_Row.j2 k2 l0 l1 (y166.set (x12_1 : Int).toNat ((rd_L6 y166 x12_1).set (x13_2 : Int).toNat (rd (rd_L6 y166 x12_1) (wrap64 (x13_2 + 1))))) ji9 x12_1 x13_2 a2_0 a2_1) else (none)) else (none)) else (none)) else (legal_Row.j2 k2 l0 l1 y166 ji9 x12_1 x13_2 a2_0 a2_1)) = some (r1, r2) := by first | (rw [hy166]; with_reducible exact H) | (have H2_ := (Option.bind_some _ _).symm.trans H; rw [hy166]; with_reducible exact H2_) | (have H2_ := (Option.bind_some _ _).symm.trans H; with_reducible exact H2_) | with_reducible exact H | (rw [hy166]; exact H) | exact H
   have Ny166 := Aside0.mk hy166
   clear hy166
   have HC41 := Aside0.mk H
   clear H
   have p163 : 0 ≤ (x12_1 : Int) := of_decide_eq_true (by first | (with_reducible assumption) | assumption)
   have q163 : x12_1 < (x10_2.length : Int) := of_decide_eq_true (by first | (with_reducible assumption) | assumption)
   obtain ⟨ad163, A163_0, c163_0, e163, hx163_0, hl163_0, hi163_0⟩ := at_L6 (Kd.S_reads' HO_10.out).2.2 x12_1 p163 q163
   obtain rfl : (⟨go14, 0, none⟩ : Addr) = ad163 := (by injection e163)
   obtain ⟨ce163, hce163, hMe163, hcc163⟩ := Kd.S_get HO_10.out [] x12_1 p163 (by first | exact q163 | exact of_decide_eq_true (by first | (with_reducible assumption) | assumption) | (have e_ := (Kd.S_reads' HO_10.out).1; omega))
   obtain ⟨ve163_0, rfl, ge163_0⟩ := hMe163
   have hv163_0 := hcc163 0 _ rfl
   rw [Nat.add_zero, show ((Kd.slice 3 (Kd.int .i64))).sz = 1 from rfl, Nat.mul_one] at hv163_0
   replace hv163_0 := Option.some.inj (hv163_0.symm.trans hx163_0)
   rw [hv163_0] at ge163_0
   have HL163_0 := Aside0.mk (show Kd.R (Kd.int .i64) 3 _ _ _ _ (rd_L6 x10_2 x12_1) from ge163_0)
   clear hv163_0 ge163_0
   have HX163_0 := Aside0.mk hx163_0
   clear hcc163 hce163
   (first | simp only [add_plain] at hx163_0 | simp only [add_at] at hx163_0 | simp only [Addr.add, Nat.zero_add] at hx163_0 | skip)
   have HR163_0 := Aside0.mk hi163_0
   clear hi163_0 hl163_0
   replace p163 := eq_true p163
   replace q163 := eq_true q163
   have p40 : 0 ≤ (x13_2 : Int) := of_decide_eq_true (by first | (with_reducible assumption) | assumption)
   have q40 : (x13_2 : Int) < (((rd_L6 x10_2 x12_1).length : Int) : Int) := of_decide_eq_true (by first | (with_reducible assumption) | assumption)
   obtain ⟨go40, co40, eo40, gb40, gl40, cl40, HG40⟩ := Kd.R_form HL163_0.out (by omega)
   (first | cases eo40 | (injection eo40 with ea_ en_ ec_; (first | subst ea_ | (injection ea_ with ea_; subst ea_)); subst ec_; clear en_))
   have GB40 := Aside0.mk gb40
   clear gb40 gl40 HG40
   obtain ⟨hx40_0, hf40_0⟩ := Kd.R_celln 0 HL163_0.out (x13_2 : Int) p40 q40
   replace p40 := eq_true p40
   replace q40 := eq_true q40
   have hq42 : (x12_1 : Int) < (x10_2.length : Int) := (by have h_ : (x12_1 : Int) < ((x10_2.length : Int) : Int) := of_decide_eq_true (by first | (with_reducible assumption) | assumption); first | exact h_ | (have e_ := (Kd.S_reads' HO_10.out).1; omega) | simpa only [List.length_set, List.length_set] using h_)
   obtain ⟨oki42, ce42, hcl42, hM42, hcc42, hok42, hbk42⟩ := Kd.S_borrow HO_10.out [] (x12_1 : Int) (of_decide_eq_true (by first | (with_reducible assumption) | assumption)) (by first | exact hq42 | exact of_decide_eq_true (by first | (with_reducible assumption) | assumption))
   obtain ⟨ve42_0, rfl, ge42_0⟩ := hM42
   have hv42 := hcc42 0 _ rfl
   rw [Nat.add_zero, show ((Kd.slice 3 (Kd.int .i64))).sz = 1 from rfl, Nat.mul_one] at hv42
   replace hv42 := Option.some.inj (hv42.symm.trans HX163_0.out)
   subst hv42
   clear hcc42 hcl42
   replace ge42_0 := (show Kd.R (Kd.int .i64) 3 _ _ _ _ (rd_L6 x10_2 x12_1) from ge42_0)
   have HP42 := Kd.R_putg ge42_0 (x13_2 : Int) (-1)
   go_upto_if 70 with ((with_reducible refine gate_store (t := 3) (p := 66) rfl ?_); refine store_event (t := 3) (p := 66) (v := ?vo_w43) (w1 := (wr.setCell ⟨go40, (x13_2 : Int).toNat, none⟩ (.int .i64 (-1)))) ?hg ?ho ?hn ?hr ?_; (case ho => rfl); (case hg => rfl); (case hn => rfl); (case hr => first | (go_simp; done) | (go_simp; rfl)); intro w43 hw; have hg : wr.grownBy w43 (some go40) := (by rw [hw]; exact HP42.2); have hz_ : Kd.R (Kd.int .i64) 3 w43 w.heap.size oki42 (.slice (some ⟨go40, 0, none⟩) (rd_L6 x10_2 x12_1).length c163_0) y164 := (by rw [hw, Ny164.out]; exact HP42.1); have hp_ : Kd.S (Kd.slice 3 (Kd.int .i64)) 25 w43 w.heap.size (fun _ => True) (.slice (some ⟨go14, 0, none⟩) x10_2.length co14) y166 := (by rw [Ny166.out]; exact hbk42 hg (fun k_ e_ => by injection e_ with e_; subst e_; exact ge42_0.1 _ rfl) (Kd.M_row hz_)); have hm_ := Kd.R_mono hz_ hok42; clear HP42 hbk42; have n0_ := Aside0.mk (hp_); have n1_ := Aside0.mk (blk_grown (g := gb150) (o := .cells #[.int .i64 a2_0, .int .i64 a2_1] 62 (0, 0)) (by (with_reducible repeat (first | refine blk_drewN ?_ _ | refine blk_drew ?_ | refine blk_alloc ?_ _)); exact BK150.out) hg (Kd.R_ne HL163_0.out BK150.out (by decide))); have n2_ := Aside0.mk ((by rw [hw]; exact below_set (HB.out) GB40.out : Below w.heap.size w w43)); have n3_ := Aside0.mk (hm_); have n4_ := Aside0.mk ((Kd.R_reads' hm_).2.1); clear HO_10; clear BK150; clear HB; clear HL163_0; have HO_10 := n0_; have BK150 := n1_; have HB := n2_; have HL197 := n3_; clear n0_ n1_ n2_ n3_ n4_; clear hg hw hp_ hz_ hm_ hok42)
   (try simp only [Act.put, z1, z2, z3])
   go_cut [] (fun wc => ∃ (kq : Nat) (x10_40 : List (List Int)), Aside0 (legal_Row.j2 kq l0 l1 x10_40 ji9 x12_1 x13_2 a2_0 a2_1 = some (r1, r2)) ∧ Aside0 (kq ≤ k2) ∧ Aside0 (Kd.S (Kd.slice 3 (Kd.int .i64)) 25 wc w.heap.size (fun _ => True) (.slice (some ⟨go14, 0, none⟩) x10_2.length co14) x10_40) ∧ Aside0 (wc.heap[gb150]? = some (.cells #[.int .i64 a2_0, .int .i64 a2_1] 62 (0, 0))) ∧ Aside0 (Below w.heap.size w wc))
   case first =>
    have H := HC41.out
    clear HC41
    by_cases c44 : (wrap64 (x13_2 + 1)) < ji9
    rotate_left
    · rw [if_neg c44] at H
      have c44b0 : decide ((wrap64 (x13_2 + 1)) < ji9) = false := decide_eq_false c44
      clear c44
      (first | rw [c44b0] | (simp only [i64_w, i32_w]; rw [c44b0]) | skip)
      have H' := Aside0.mk H
      clear H
      go_wp2
      go_meet
      case rel => exact ⟨_, (y166), H', ⟨by have := HK1.out; have := HK2.out; first | omega | exact Nat.le_refl _⟩, ⟨by (try simp only [hl10_1]); (try simp only [hl10_2]); (with_reducible repeat (first | apply Kd.S_alloc | apply Kd.S_drewN | apply Kd.S_drew)); exact HO_10.out⟩, ⟨by (try simp only [hl10_1]); (try simp only [hl10_2]); (with_reducible repeat (first | refine blk_drewN ?_ _ | refine blk_drew ?_ | refine blk_alloc ?_ _)); exact BK150.out⟩, ⟨by repeat (first | (with_reducible first | exact HB.out | apply below_alloc | apply pw_below_drewN | apply below_drew1 | refine below_set ?_ GE150.out) | exact HB.out)⟩⟩
    rw [if_pos c44] at H
    have c44b0 : decide ((wrap64 (x13_2 + 1)) < ji9) = true := decide_eq_true c44
    clear c44
    (first | rw [c44b0] | (simp only [i64_w, i32_w]; rw [c44b0]) | skip)
    obtain ⟨ji45, hji45⟩ : ∃ j_ : Int, (wrap64 (x13_2 + 1)) = j_ := ⟨_, rfl⟩
    replace H : (if 0 ≤ (ji45) then (if (ji45) < ((rd_L6 y166 x12_1).length : Int) then (if x13_2 < ((rd_L6 y166 x12_1).length : Int) then (legal_Row.j2 k2 l0 l1 (y166.set (x12_1 : Int).toNat ((rd_L6 y166 x12_1).set (x13_2 : Int).toNat (rd (rd_L6 y166 x12_1) (ji45)))) ji9 x12_1 x13_2 a2_0 a2_1) else (none)) else (none)) else (none)) = some (r1, r2) := by first | (rw [hji45] at H; exact H) | (simp only [hji45] at H ⊢; exact H)
    (try rw [hji45] at c44b0)
    have hji45w : (IntKind.i64.wrap (x13_2 + 1)) = ji45 := (i64_w _).trans hji45
    by_cases c46 : 0 ≤ (ji45)
    rotate_left
    · rw [if_neg c46] at H
      exact absurd H (by simp)
    rw [if_pos c46] at H
    have c46b0 : decide (0 ≤ (ji45)) = true := decide_eq_true c46
    clear c46
    by_cases c47 : (ji45) < ((rd_L6 y166 x12_1).length : Int)
    rotate_left
    · rw [if_neg c47] at H
      exact absurd H (by simp)
    rw [if_pos c47] at H
    have c47b0 : decide ((ji45) < ((rd_L6 y166 x12_1).length : Int)) = true := decide_eq_true c47
    clear c47
    by_cases c48 : x13_2 < ((rd_L6 y166 x12_1).length : Int)
    rotate_left
    · rw [if_neg c48] at H
      exact absurd H (by simp)
    rw [if_pos c48] at H
    have c48b0 : decide (x13_2 < ((rd_L6 y166 x12_1).length : Int)) = true := decide_eq_true c48
    clear c48
    obtain ⟨y170, hy170⟩ : ∃ y_ : List Int, y_ = ((rd_L6 y166 x12_1).set (x13_2 : Int).toNat (rd (rd_L6 y166 x12_1) (ji45))) := ⟨_, rfl⟩
    replace H : (legal_Row.j2 k2 l0 l1 (y166.set (x12_1 : Int).toNat y170) ji9 x12_1 x13_2 a2_0 a2_1) = some (r1, r2) := by first | (rw [hy170]; with_reducible exact H) | (have H2_ := (Option.bind_some _ _).symm.trans H; rw [hy170]; with_reducible exact H2_) | (have H2_ := (Option.bind_some _ _).symm.trans H; with_reducible exact H2_) | with_reducible exact H | (rw [hy170]; exact H) | exact H
    have Ny170 := Aside0.mk hy170
    clear hy170
    obtain ⟨y172, hy172⟩ : ∃ y_ : List (List Int), y_ = (y166.set (x12_1 : Int).toNat y170) := ⟨_, rfl⟩
    replace H : (legal_Row.j2 k2 l0 l1 y172 ji9 x12_1 x13_2 a2_0 a2_1) = some (r1, r2) := by first | (rw [hy172]; with_reducible exact H) | (have H2_ := (Option.bind_some _ _).symm.trans H; rw [hy172]; with_reducible exact H2_) | (have H2_ := (Option.bind_some _ _).symm.trans H; with_reducible exact H2_) | with_reducible exact H | (rw [hy172]; exact H) | exact H
    have Ny172 := Aside0.mk hy172
    clear hy172
    have H' := Aside0.mk H
    clear H
    try go_wp2
    have n0_ := Aside0.mk (Kd.S_drew HO_10.out)
    have n1_ := Aside0.mk (Kd.R_drew HL197.out)
    have n2_ := Aside0.mk (blk_drew BK150.out)
    have n3_ := Aside0.mk (below_drew1 HB.out)
    clear HO_10
    clear HL197
    clear BK150
    clear HB
    have HO_10 := n0_
    have HL197 := n1_
    have BK150 := n2_
    have HB := n3_
    clear n0_ n1_ n2_ n3_
    have p167 : 0 ≤ (x12_1 : Int) := of_decide_eq_true (by first | (with_reducible assumption) | assumption)
    have q167 : x12_1 < (y166.length : Int) := (by first | (have e_ := (Kd.S_reads' HO_10.out).1; omega) | simpa only [Ny166.out, List.length_set] using h_)
    obtain ⟨ad167, A167_0, c167_0, e167, hx167_0, hl167_0, hi167_0⟩ := at_L6 (Kd.S_reads' HO_10.out).2.2 x12_1 p167 q167
    obtain rfl : (⟨go14, 0, none⟩ : Addr) = ad167 := (by injection e167)
    obtain ⟨ce167, hce167, hMe167, hcc167⟩ := Kd.S_get HO_10.out [] x12_1 p167 (by first | exact q167 | exact of_decide_eq_true (by first | (with_reducible assumption) | assumption) | (have e_ := (Kd.S_reads' HO_10.out).1; omega))
    obtain ⟨ve167_0, rfl, ge167_0⟩ := hMe167
    have hv167_0 := hcc167 0 _ rfl
    rw [Nat.add_zero, show ((Kd.slice 3 (Kd.int .i64))).sz = 1 from rfl, Nat.mul_one] at hv167_0
    replace hv167_0 := Option.some.inj (hv167_0.symm.trans hx167_0)
    rw [hv167_0] at ge167_0
    have HL167_0 := Aside0.mk (show Kd.R (Kd.int .i64) 3 _ _ _ _ (rd_L6 y166 x12_1) from ge167_0)
    clear hv167_0 ge167_0
    have HX167_0 := Aside0.mk hx167_0
    clear hcc167 hce167
    (first | simp only [add_plain] at hx167_0 | simp only [add_at] at hx167_0 | simp only [Addr.add, Nat.zero_add] at hx167_0 | skip)
    have HR167_0 := Aside0.mk hi167_0
    clear hi167_0 hl167_0
    replace p167 := eq_true p167
    replace q167 := eq_true q167
    have p168 : 0 ≤ (x12_1 : Int) := of_decide_eq_true (by first | (with_reducible assumption) | assumption)
    have q168 : x12_1 < (y166.length : Int) := (by first | (have e_ := (Kd.S_reads' HO_10.out).1; omega) | simpa only [Ny166.out, List.length_set] using h_)
    obtain ⟨ad168, A168_0, c168_0, e168, hx168_0, hl168_0, hi168_0⟩ := at_L6 (Kd.S_reads' HO_10.out).2.2 x12_1 p168 q168
    obtain rfl : (⟨go14, 0, none⟩ : Addr) = ad168 := (by injection e168)
    obtain ⟨ce168, hce168, hMe168, hcc168⟩ := Kd.S_get HO_10.out [] x12_1 p168 (by first | exact q168 | exact of_decide_eq_true (by first | (with_reducible assumption) | assumption) | (have e_ := (Kd.S_reads' HO_10.out).1; omega))
    obtain ⟨ve168_0, rfl, ge168_0⟩ := hMe168
    have hv168_0 := hcc168 0 _ rfl
    rw [Nat.add_zero, show ((Kd.slice 3 (Kd.int .i64))).sz = 1 from rfl, Nat.mul_one] at hv168_0
    replace hv168_0 := Option.some.inj (hv168_0.symm.trans hx168_0)
    rw [hv168_0] at ge168_0
    have HL168_0 := Aside0.mk (show Kd.R (Kd.int .i64) 3 _ _ _ _ (rd_L6 y166 x12_1) from ge168_0)
    clear hv168_0 ge168_0
    have HX168_0 := Aside0.mk hx168_0
    clear hcc168 hce168
    (first | simp only [add_plain] at hx168_0 | simp only [add_at] at hx168_0 | simp only [Addr.add, Nat.zero_add] at hx168_0 | skip)
    have HR168_0 := Aside0.mk hi168_0
    have HC168_0 := Aside0.mk hl168_0
    clear hi168_0 hl168_0
    replace p168 := eq_true p168
    replace q168 := eq_true q168
    have ea_ := Option.some.inj (hx167_0.symm.trans hx168_0)
    injection ea_ with ea_ en_ ec_
    subst ea_
    subst ec_
    clear en_
    have p169 : 0 ≤ ((ji45) : Int) := of_decide_eq_true (by first | (with_reducible assumption) | assumption)
    have q169 : (ji45) < ((rd_L6 y166 x12_1).length : Int) := of_decide_eq_true (by first | (with_reducible assumption) | assumption)
    obtain ⟨ad169, e169, hx169_0⟩ := Kd.at_int (by repeat (first | (with_reducible exact HR168_0.out) | (with_reducible refine Kd.C_alloc ?_ _) | (with_reducible refine Kd.C_drewN ?_ _) | (with_reducible refine Kd.C_drew ?_) | exact HR168_0.out)) (ji45) p169 q169
    cases e169
    replace p169 := eq_true p169
    replace q169 := eq_true q169
    have p49 : 0 ≤ (x13_2 : Int) := of_decide_eq_true (by first | (with_reducible assumption) | assumption)
    have q49 : (x13_2 : Int) < (((rd_L6 y166 x12_1).length : Int) : Int) := of_decide_eq_true (by first | (with_reducible assumption) | assumption)
    obtain ⟨go49, co49, eo49, gb49, gl49, cl49, HG49⟩ := Kd.R_form HL167_0.out (by omega)
    (first | cases eo49 | (injection eo49 with ea_ en_ ec_; (first | subst ea_ | (injection ea_ with ea_; subst ea_)); subst ec_; clear en_))
    have GB49 := Aside0.mk gb49
    have GG49 := Aside0.mk HG49
    clear gb49 gl49 HG49
    (first | simp only [add_plain] at hx169_0 | skip)
    obtain ⟨hx49_0, hf49_0⟩ := Kd.R_celln 0 HL167_0.out (x13_2 : Int) p49 q49
    replace p49 := eq_true p49
    replace q49 := eq_true q49
    have hq51 : (x12_1 : Int) < (y166.length : Int) := (by have h_ : (x12_1 : Int) < ((x10_2.length : Int) : Int) := of_decide_eq_true (by first | (with_reducible assumption) | assumption); first | exact h_ | (have e_ := (Kd.S_reads' HO_10.out).1; omega) | simpa only [Ny166.out, List.length_set] using h_)
    obtain ⟨oki51, ce51, hcl51, hM51, hcc51, hok51, hbk51⟩ := Kd.S_borrow HO_10.out [] (x12_1 : Int) (of_decide_eq_true (by first | (with_reducible assumption) | assumption)) (by first | exact hq51 | exact of_decide_eq_true (by first | (with_reducible assumption) | assumption))
    obtain ⟨ve51_0, rfl, ge51_0⟩ := hM51
    have hv51 := hcc51 0 _ rfl
    rw [Nat.add_zero, show ((Kd.slice 3 (Kd.int .i64))).sz = 1 from rfl, Nat.mul_one] at hv51
    replace hv51 := Option.some.inj (hv51.symm.trans HX167_0.out)
    subst hv51
    clear hcc51 hcl51
    replace ge51_0 := (show Kd.R (Kd.int .i64) 3 _ _ _ _ (rd_L6 y166 x12_1) from ge51_0)
    have HP51 := Kd.R_putg ge51_0 (x13_2 : Int) (rd (rd_L6 y166 x12_1) (ji45))
    rw [← Ny170.out] at HP51
    have HS51 := hbk51 HP51.2 (fun k_ e_ => by injection e_ with e_; subst e_; exact ge51_0.1 _ rfl) (x' := y170) (Kd.M_row HP51.1)
    rw [← Ny172.out] at HS51
    have HQ51 := Aside0.mk HS51
    clear HP51 HS51 hbk51 hok51
    refine start_ (n := 15) (S := fun w' => w'.cell? ⟨go14, (x12_1).toNat, none⟩ = some (.slice (some ⟨go49, 0, none⟩) (rd_L6 y166 x12_1).length c167_0) ∧ w'.cell? ⟨go14, (x12_1).toNat, none⟩ = some (.slice (some ⟨go49, 0, none⟩) (rd_L6 y166 x12_1).length c167_0) ∧ w'.cell? ⟨go49, ((ji45)).toNat, none⟩ = some (.int .i64 (rd (rd_L6 y166 x12_1) (ji45)))) (ds := [14]) (zb 0 15) (by kernel_rfl) rfl rfl ⟨hx167_0, hx168_0, hx169_0⟩ (fun hHeld => ?_); refine with_tabW legal_Row.tab17 legal_Row.bits17 (fun HT_ HW_ => ?_)
    generalize w43.drew = w50 at HO_10 HL197 BK150 HB GG49 HL167_0 HL168_0 HQ51 HR167_0 HR168_0 HX167_0 HX168_0 hf49_0 hx167_0 hx168_0 hx169_0 hx49_0 hHeld ⊢
    refine pure_ (i := 0) (N := some 71) (v := ?_) (a' := ?_) (zb 1 14) rfl rfl (any_of HT_.out (by kernel_rfl)) (fun _ _ _ h => h) (Or.inl ⟨by rfl, ?_⟩) ?_ ?_
    rotate_left; focus (intro w'; go_simp; with_reducible rfl)
    rotate_left; focus (simp only [Act.put, z1, z2, z3, i64_w, i32_w]; rfl)
    refine pure_ (i := 1) (N := some 72) (v := ?_) (a' := ?_) (zb 2 13) rfl rfl (any_of HT_.out (by kernel_rfl)) (fun _ _ _ h => h) (Or.inl ⟨by rfl, ?_⟩) ?_ ?_
    rotate_left; focus (intro w'; go_simp; with_reducible rfl)
    rotate_left; focus (simp only [Act.put, z1, z2, z3, i64_w, i32_w]; rfl)
    refine pure_ (i := 2) (N := some 73) (v := ?_) (a' := ?_) (zb 3 12) rfl rfl (any_of HT_.out (by kernel_rfl)) (fun _ _ _ h => h) (Or.inl ⟨by rfl, ?_⟩) ?_ ?_
    rotate_left; focus (intro w'; go_simp; with_reducible rfl)
    rotate_left; focus (simp only [Act.put, z1, z2, z3, i64_w, i32_w]; rfl)
    refine pure_ (i := 4) (N := some 75) (v := ?_) (a' := ?_) #[true,true,true,false,true,false,false,false,false,false,false,false,false,false,false] rfl rfl (any_of HT_.out (by kernel_rfl)) (fun _ _ _ h => h) (Or.inl ⟨by rfl, ?_⟩) ?_ ?_
    rotate_left; focus (intro w'; go_simp; with_reducible rfl)
    rotate_left; focus (simp only [Act.put, z1, z2, z3, i64_w, i32_w]; rfl)
    refine pure_ (i := 5) (N := some 76) (v := ?_) (a' := ?_) #[true,true,true,false,true,true,false,false,false,false,false,false,false,false,false] rfl rfl (any_of HT_.out (by kernel_rfl)) (fun _ _ _ h => h) (Or.inl ⟨by rfl, ?_⟩) ?_ ?_
    rotate_left; focus (intro w'; go_simp; with_reducible rfl)
    rotate_left; focus (simp only [Act.put, z1, z2, z3, i64_w, i32_w]; rfl)
    refine pure_ (i := 6) (N := some 77) (v := ?_) (a' := ?_) #[true,true,true,false,true,true,true,false,false,false,false,false,false,false,false] rfl rfl (any_of HT_.out (by kernel_rfl)) (fun _ _ _ h => h) (Or.inl ⟨by rfl, ?_⟩) ?_ ?_
    rotate_left; focus (intro w'; go_simp; with_reducible rfl)
    rotate_left; focus (simp only [Act.put, z1, z2, z3, i64_w, i32_w]; rfl)
    refine pure_ (i := 7) (N := some 78) (v := ?_) (a' := ?_) #[true,true,true,false,true,true,true,true,false,false,false,false,false,false,false] rfl rfl (any_of HT_.out (by kernel_rfl)) (fun _ _ _ h => h) (Or.inl ⟨by rfl, ?_⟩) ?_ ?_
    rotate_left; focus (intro w'; go_simp; with_reducible rfl)
    rotate_left; focus (simp only [Act.put, z1, z2, z3, i64_w, i32_w]; rfl)
    refine pure_ (i := 9) (N := some 80) (v := ?_) (a' := ?_) #[true,true,true,false,true,true,true,true,false,true,false,false,false,false,false] rfl rfl (any_of HT_.out (by kernel_rfl)) (fun _ _ _ h => h) (Or.inl ⟨by rfl, ?_⟩) ?_ ?_
    rotate_left; focus (intro w'; go_simp; with_reducible rfl)
    rotate_left; focus (simp only [Act.put, z1, z2, z3, i64_w, i32_w]; rfl)
    refine pure_ (i := 10) (N := some 81) (v := ?_) (a' := ?_) #[true,true,true,false,true,true,true,true,false,true,true,false,false,false,false] rfl rfl (any_of HT_.out (by kernel_rfl)) (fun _ _ _ h => h) (Or.inl ⟨by rfl, ?_⟩) ?_ ?_
    rotate_left; focus (intro w'; go_simp; with_reducible rfl)
    rotate_left; focus (simp only [Act.put, z1, z2, z3, i64_w, i32_w]; rfl)
    refine take_ (i := 3) (N := some 74) (v := ?_) (a' := ?_) #[true,true,true,true,true,true,true,true,false,true,true,false,false,false,false] rfl rfl (take_ofW HT_.out HW_.out (by kernel_rfl)) (fun _ _ _ h => h) (Or.inl ⟨by rfl, ?_⟩) hHeld ?_ ?_
    rotate_left
    · rintro w' ⟨s0, s1, s2⟩
      go_simp
      with_reducible rfl
    rotate_left; focus (simp only [Act.put, z1, z2, z3, i64_w, i32_w]; rfl)
    refine take_ (i := 8) (N := some 79) (v := ?_) (a' := ?_) (zb 11 4) rfl rfl (take_ofW HT_.out HW_.out (by kernel_rfl)) (fun _ _ _ h => h) (Or.inl ⟨by rfl, ?_⟩) hHeld ?_ ?_
    rotate_left
    · rintro w' ⟨s0, s1, s2⟩
      go_simp
      with_reducible rfl
    rotate_left; focus (simp only [Act.put, z1, z2, z3, i64_w, i32_w]; rfl)
    refine pure_ (i := 11) (N := some 82) (v := ?_) (a' := ?_) (zb 12 3) rfl rfl (any_of HT_.out (by kernel_rfl)) (fun _ _ _ h => h) (Or.inl ⟨by rfl, ?_⟩) ?_ ?_
    rotate_left; focus (intro w'; go_simp; with_reducible rfl)
    rotate_left; focus (simp only [Act.put, z1, z2, z3, i64_w, i32_w]; rfl)
    refine take_ (i := 12) (N := some 83) (v := ?_) (a' := ?_) (zb 13 2) rfl rfl (take_ofW HT_.out HW_.out (by kernel_rfl)) (fun _ _ _ h => h) (Or.inl ⟨by rfl, ?_⟩) hHeld ?_ ?_
    rotate_left
    · rintro w' ⟨s0, s1, s2⟩
      go_simp
      with_reducible rfl
    rotate_left; focus (simp only [Act.put, z1, z2, z3, i64_w, i32_w]; rfl)
    refine pure_ (i := 13) (N := some 84) (v := ?_) (a' := ?_) (zb 14 1) rfl rfl (any_of HT_.out (by kernel_rfl)) (fun _ _ _ h => h) (Or.inl ⟨by rfl, ?_⟩) ?_ ?_
    rotate_left; focus (intro w'; go_simp; with_reducible rfl)
    rotate_left; focus (simp only [Act.put, z1, z2, z3, i64_w, i32_w]; rfl)
    refine last_ (i := 14) (N := none) (zb 15 0) rfl rfl (one_of HT_.out (by kernel_rfl)) (by decide) (fun K hK => ?_)
    refine skip_ (w1 := ?_) (by rfl) rfl ?_ ?_
    rotate_left; focus (go_simp; rfl)
    refine hK.out _ _ ?_
    clear hK K
    refine done_ (done_of HT_.out (by kernel_rfl)) ?_
    try go_wp2
    go_meet
    case rel => exact ⟨_, (y172), H', ⟨by have := HK1.out; have := HK2.out; first | omega | exact Nat.le_refl _⟩, ⟨by (try simp only [hl10_1]); (try simp only [hl10_2]); (with_reducible repeat (first | apply Kd.S_alloc | apply Kd.S_drewN | apply Kd.S_drew)); exact HQ51.out⟩, ⟨by (try simp only [hl10_1]); (try simp only [hl10_2]); (with_reducible repeat (first | refine blk_drewN ?_ _ | refine blk_drew ?_ | refine blk_alloc ?_ _)); refine blk_far ?_ (by have h_ := Kd.R_ne HL167_0.out BK150.out (by decide); intro e_; exact h_ (by rw [e_]; rfl)) _; (with_reducible repeat (first | refine blk_drewN ?_ _ | refine blk_drew ?_ | refine blk_alloc ?_ _)); exact BK150.out⟩, ⟨by repeat (first | (with_reducible first | exact HB.out | apply below_alloc | apply pw_below_drewN | apply below_drew1 | refine below_set ?_ GB49.out | refine below_set ?_ GE150.out) | exact HB.out)⟩⟩
   clear HC41
   clear c35b0 c36b0 c37b0 c38b0 c39b0 p40 q40 hx163_0 hx40_0 p163 q163
   obtain ⟨kq, x10_40, HA, HJ40, HO_10, BK150, HB⟩ := hcut
   have hl10_40 := (Kd.S_reads' HO_10.out).1
   rw [hl10_40] at HO_10
   (try simp only [hl10_40])
   (try simp only [hl10_40] at BK150)
   cases kq with
   | zero => exact absurd HA.out (by simp [legal_Row.j2])
   | succ kj40 =>
    have H := HA.out
    clear HA
    simp only [legal_Row.j2] at H
    by_cases c53 : 0 ≤ x12_1
    rotate_left
    · rw [if_neg c53] at H
      exact absurd H (by simp)
    rw [if_pos c53] at H
    have c53b0 : decide (0 ≤ x12_1) = true := decide_eq_true c53
    clear c53
    by_cases c54 : x12_1 < (l0.length : Int)
    rotate_left
    · rw [if_neg c54] at H
      exact absurd H (by simp)
    rw [if_pos c54] at H
    have c54b0 : decide (x12_1 < (l0.length : Int)) = true := decide_eq_true c54
    clear c54
    by_cases c55 : x12_1 < (l1.length : Int)
    rotate_left
    · rw [if_neg c55] at H
      exact absurd H (by simp)
    rw [if_pos c55] at H
    have c55b0 : decide (x12_1 < (l1.length : Int)) = true := decide_eq_true c55
    clear c55
    obtain ⟨ji56, hji56⟩ : ∃ j_ : Int, (wrap64 (x12_1 + 1)) = j_ := ⟨_, rfl⟩
    replace H : (if 0 ≤ (ji56) then (if (ji56) < (x10_40.length : Int) then ((legal_cost.f (rd l0 x12_1) (rd l1 x12_1) (wrap64 (a2_0 + x13_2)) (rd_L6 x10_40 (ji56)) a2_0 a2_1).bind fun bt176 => (if bt176.2 = true then (if x12_1 < (x10_40.length : Int) then (if 0 ≤ x13_2 then (if x13_2 < ((rd_L6 x10_40 x12_1).length : Int) then (if (rd (rd_L6 x10_40 x12_1) x13_2) < 0 then (legal_Row.j3 kj40 l0 l1 x10_40 ji9 x12_1 x13_2 bt176.1 true a2_0 a2_1) else (legal_Row.j3 kj40 l0 l1 x10_40 ji9 x12_1 x13_2 bt176.1 (decide (bt176.1 ≤ (rd (rd_L6 x10_40 x12_1) x13_2))) a2_0 a2_1)) else (none)) else (none)) else (none)) else (legal_Row.j3 kj40 l0 l1 x10_40 ji9 x12_1 x13_2 bt176.1 false a2_0 a2_1))) else (none)) else (none)) = some (r1, r2) := by first | (rw [hji56] at H; exact H) | (simp only [hji56] at H ⊢; exact H)
    have hji56w : (IntKind.i64.wrap (x12_1 + 1)) = ji56 := (i64_w _).trans hji56
    by_cases c57 : 0 ≤ (ji56)
    rotate_left
    · rw [if_neg c57] at H
      exact absurd H (by simp)
    rw [if_pos c57] at H
    have c57b0 : decide (0 ≤ (ji56)) = true := decide_eq_true c57
    clear c57
    by_cases c58 : (ji56) < (x10_40.length : Int)
    rotate_left
    · rw [if_neg c58] at H
      exact absurd H (by simp)
    rw [if_pos c58] at H
    have c58b0 : decide ((ji56) < (x10_40.length : Int)) = true := decide_eq_true c58
    clear c58
    replace H := Option.bind_eq_some_iff.mp H
    obtain ⟨⟨t176, t177⟩, A590, H⟩ := H
    replace H : (if t177 = true then (if x12_1 < (x10_40.length : Int) then (if 0 ≤ x13_2 then (if x13_2 < ((rd_L6 x10_40 x12_1).length : Int) then (if (rd (rd_L6 x10_40 x12_1) x13_2) < 0 then (legal_Row.j3 kj40 l0 l1 x10_40 ji9 x12_1 x13_2 t176 true a2_0 a2_1) else (legal_Row.j3 kj40 l0 l1 x10_40 ji9 x12_1 x13_2 t176 (decide (t176 ≤ (rd (rd_L6 x10_40 x12_1) x13_2))) a2_0 a2_1)) else (none)) else (none)) else (none)) else (legal_Row.j3 kj40 l0 l1 x10_40 ji9 x12_1 x13_2 t176 false a2_0 a2_1)) = some (r1, r2) := H
    have A59 := Aside0.mk A590
    clear A590
    have HC60 := Aside0.mk H
    clear H
    try go_wp2
    have n0_ := Aside0.mk (Kd.S_drew HO_10.out)
    have n1_ := Aside0.mk (blk_drew BK150.out)
    have n2_ := Aside0.mk (below_drew1 HB.out)
    clear HO_10
    clear BK150
    clear HB
    have HO_10 := n0_
    have BK150 := n1_
    have HB := n2_
    clear n0_ n1_ n2_
    have p173 : 0 ≤ (x12_1 : Int) := of_decide_eq_true (by first | (with_reducible assumption) | assumption)
    have q173 : x12_1 < (l0.length : Int) := of_decide_eq_true (by first | (with_reducible assumption) | assumption)
    obtain ⟨ad173, e173, hx173_0⟩ := Kd.at_int HR0.out x12_1 p173 q173
    have hw173_0 := hx173_0
    cases e173
    replace hx173_0 := (HB.out.cell (World.block_lt_of_cell? w _ hx173_0)).trans hx173_0
    replace p173 := eq_true p173
    replace q173 := eq_true q173
    have p174 : 0 ≤ (x12_1 : Int) := of_decide_eq_true (by first | (with_reducible assumption) | assumption)
    have q174 : x12_1 < (l1.length : Int) := of_decide_eq_true (by first | (with_reducible assumption) | assumption)
    obtain ⟨ad174, e174, hx174_0⟩ := Kd.at_int HR1.out x12_1 p174 q174
    have hw174_0 := hx174_0
    cases e174
    replace hx174_0 := (HB.out.cell (World.block_lt_of_cell? w _ hx174_0)).trans hx174_0
    replace p174 := eq_true p174
    replace q174 := eq_true q174
    have p175 : 0 ≤ ((ji56) : Int) := of_decide_eq_true (by first | (with_reducible assumption) | assumption)
    have q175 : (ji56) < (x10_40.length : Int) := of_decide_eq_true (by first | (with_reducible assumption) | assumption)
    obtain ⟨ad175, A175_0, c175_0, e175, hx175_0, hl175_0, hi175_0⟩ := at_L6 (Kd.S_reads' HO_10.out).2.2 (ji56) p175 q175
    obtain rfl : (⟨go14, 0, none⟩ : Addr) = ad175 := (by injection e175)
    obtain ⟨ce175, hce175, hMe175, hcc175⟩ := Kd.S_get HO_10.out [] (ji56) p175 (by first | exact q175 | exact of_decide_eq_true (by first | (with_reducible assumption) | assumption) | (have e_ := (Kd.S_reads' HO_10.out).1; omega))
    obtain ⟨ve175_0, rfl, ge175_0⟩ := hMe175
    have hv175_0 := hcc175 0 _ rfl
    rw [Nat.add_zero, show ((Kd.slice 3 (Kd.int .i64))).sz = 1 from rfl, Nat.mul_one] at hv175_0
    replace hv175_0 := Option.some.inj (hv175_0.symm.trans hx175_0)
    rw [hv175_0] at ge175_0
    have HL175_0 := Aside0.mk (show Kd.R (Kd.int .i64) 3 _ _ _ _ (rd_L6 x10_40 (ji56)) from ge175_0)
    clear hv175_0 ge175_0
    have HX175_0 := Aside0.mk hx175_0
    clear hcc175 hce175
    (first | simp only [add_plain] at hx175_0 | simp only [add_at] at hx175_0 | simp only [Addr.add, Nat.zero_add] at hx175_0 | skip)
    have HR175_0 := Aside0.mk hi175_0
    have HC175_0 := Aside0.mk hl175_0
    clear hi175_0 hl175_0
    replace p175 := eq_true p175
    replace q175 := eq_true q175
    refine start_ (n := 24) (S := fun w' => w'.cell? ⟨gb150, 0, none⟩ = some (.int .i64 a2_0) ∧ w'.cell? ⟨gb150, 1, none⟩ = some (.int .i64 a2_1) ∧ w'.cell? (ad173.add (x12_1).toNat) = some (.int .i64 (rd l0 x12_1)) ∧ w'.cell? (ad174.add (x12_1).toNat) = some (.int .i64 (rd l1 x12_1)) ∧ w'.cell? ⟨go14, ((ji56)).toNat, none⟩ = some (.slice A175_0 (rd_L6 x10_40 (ji56)).length c175_0)) (ds := []) (zb 0 24) (by kernel_rfl) rfl rfl ⟨(blk_cell BK150.out 0).trans rfl, (blk_cell BK150.out 1).trans rfl, ((HB.out.cell (World.block_lt_of_cell? w _ hw173_0)).trans hw173_0), ((HB.out.cell (World.block_lt_of_cell? w _ hw174_0)).trans hw174_0), hx175_0⟩ (fun hHeld => ?_); refine with_tabW legal_Row.tab18 legal_Row.bits18 (fun HT_ HW_ => ?_)
    generalize wc.drew = w61 at HO_10 BK150 HB HL175_0 HR175_0 HX175_0 hx173_0 hx174_0 hx175_0 hHeld ⊢
    refine pure_ (i := 0) (N := some 86) (v := ?_) (a' := ?_) (zb 1 23) rfl rfl (any_of HT_.out (by kernel_rfl)) (fun _ _ _ h => h) (Or.inl ⟨by rfl, ?_⟩) ?_ ?_
    rotate_left; focus (intro w'; go_simp; with_reducible rfl)
    rotate_left; focus (simp only [Act.put, z1, z2, z3, i64_w, i32_w]; rfl)
    refine pure_ (i := 1) (N := some 87) (v := ?_) (a' := ?_) (zb 2 22) rfl rfl (any_of HT_.out (by kernel_rfl)) (fun _ _ _ h => h) (Or.inl ⟨by rfl, ?_⟩) ?_ ?_
    rotate_left; focus (intro w'; go_simp; with_reducible rfl)
    rotate_left; focus (simp only [Act.put, z1, z2, z3, i64_w, i32_w]; rfl)
    refine pure_ (i := 2) (N := some 88) (v := ?_) (a' := ?_) (zb 3 21) rfl rfl (any_of HT_.out (by kernel_rfl)) (fun _ _ _ h => h) (Or.inl ⟨by rfl, ?_⟩) ?_ ?_
    rotate_left; focus (intro w'; go_simp; with_reducible rfl)
    rotate_left; focus (simp only [Act.put, z1, z2, z3, i64_w, i32_w]; rfl)
    refine pure_ (i := 4) (N := some 90) (v := ?_) (a' := ?_) #[true,true,true,false,true,false,false,false,false,false,false,false,false,false,false,false,false,false,false,false,false,false,false,false] rfl rfl (any_of HT_.out (by kernel_rfl)) (fun _ _ _ h => h) (Or.inl ⟨by rfl, ?_⟩) ?_ ?_
    rotate_left; focus (intro w'; go_simp; with_reducible rfl)
    rotate_left; focus (simp only [Act.put, z1, z2, z3, i64_w, i32_w]; rfl)
    refine pure_ (i := 5) (N := some 91) (v := ?_) (a' := ?_) #[true,true,true,false,true,true,false,false,false,false,false,false,false,false,false,false,false,false,false,false,false,false,false,false] rfl rfl (any_of HT_.out (by kernel_rfl)) (fun _ _ _ h => h) (Or.inl ⟨by rfl, ?_⟩) ?_ ?_
    rotate_left; focus (intro w'; go_simp; with_reducible rfl)
    rotate_left; focus (simp only [Act.put, z1, z2, z3, i64_w, i32_w]; rfl)
    refine pure_ (i := 6) (N := some 92) (v := ?_) (a' := ?_) #[true,true,true,false,true,true,true,false,false,false,false,false,false,false,false,false,false,false,false,false,false,false,false,false] rfl rfl (any_of HT_.out (by kernel_rfl)) (fun _ _ _ h => h) (Or.inl ⟨by rfl, ?_⟩) ?_ ?_
    rotate_left; focus (intro w'; go_simp; with_reducible rfl)
    rotate_left; focus (simp only [Act.put, z1, z2, z3, i64_w, i32_w]; rfl)
    refine pure_ (i := 8) (N := some 94) (v := ?_) (a' := ?_) #[true,true,true,false,true,true,true,false,true,false,false,false,false,false,false,false,false,false,false,false,false,false,false,false] rfl rfl (any_of HT_.out (by kernel_rfl)) (fun _ _ _ h => h) (Or.inl ⟨by rfl, ?_⟩) ?_ ?_
    rotate_left; focus (intro w'; go_simp; with_reducible rfl)
    rotate_left; focus (simp only [Act.put, z1, z2, z3, i64_w, i32_w]; rfl)
    refine pure_ (i := 10) (N := some 96) (v := ?_) (a' := ?_) #[true,true,true,false,true,true,true,false,true,false,true,false,false,false,false,false,false,false,false,false,false,false,false,false] rfl rfl (any_of HT_.out (by kernel_rfl)) (fun _ _ _ h => h) (Or.inl ⟨by rfl, ?_⟩) ?_ ?_
    rotate_left; focus (intro w'; go_simp; with_reducible rfl)
    rotate_left; focus (simp only [Act.put, z1, z2, z3, i64_w, i32_w]; rfl)
    refine pure_ (i := 12) (N := some 98) (v := ?_) (a' := ?_) #[true,true,true,false,true,true,true,false,true,false,true,false,true,false,false,false,false,false,false,false,false,false,false,false] rfl rfl (any_of HT_.out (by kernel_rfl)) (fun _ _ _ h => h) (Or.inl ⟨by rfl, ?_⟩) ?_ ?_
    rotate_left; focus (intro w'; go_simp; with_reducible rfl)
    rotate_left; focus (simp only [Act.put, z1, z2, z3, i64_w, i32_w]; rfl)
    refine pure_ (i := 13) (N := some 99) (v := ?_) (a' := ?_) #[true,true,true,false,true,true,true,false,true,false,true,false,true,true,false,false,false,false,false,false,false,false,false,false] rfl rfl (any_of HT_.out (by kernel_rfl)) (fun _ _ _ h => h) (Or.inl ⟨by rfl, ?_⟩) ?_ ?_
    rotate_left; focus (intro w'; go_simp; with_reducible rfl)
    rotate_left; focus (simp only [Act.put, z1, z2, z3, i64_w, i32_w]; rfl)
    refine pure_ (i := 14) (N := some 100) (v := ?_) (a' := ?_) #[true,true,true,false,true,true,true,false,true,false,true,false,true,true,true,false,false,false,false,false,false,false,false,false] rfl rfl (any_of HT_.out (by kernel_rfl)) (fun _ _ _ h => h) (Or.inl ⟨by rfl, ?_⟩) ?_ ?_
    rotate_left; focus (intro w'; go_simp; with_reducible rfl)
    rotate_left; focus (simp only [Act.put, z1, z2, z3, i64_w, i32_w]; rfl)
    refine pure_ (i := 15) (N := some 101) (v := ?_) (a' := ?_) #[true,true,true,false,true,true,true,false,true,false,true,false,true,true,true,true,false,false,false,false,false,false,false,false] rfl rfl (any_of HT_.out (by kernel_rfl)) (fun _ _ _ h => h) (Or.inl ⟨by rfl, ?_⟩) ?_ ?_
    rotate_left; focus (intro w'; go_simp; with_reducible rfl)
    rotate_left; focus (simp only [Act.put, z1, z2, z3, i64_w, i32_w]; rfl)
    refine take_ (i := 3) (N := some 89) (v := ?_) (a' := ?_) #[true,true,true,true,true,true,true,false,true,false,true,false,true,true,true,true,false,false,false,false,false,false,false,false] rfl rfl (take_ofW HT_.out HW_.out (by kernel_rfl)) (fun _ _ _ h => h) (Or.inl ⟨by rfl, ?_⟩) hHeld ?_ ?_
    rotate_left
    · rintro w' ⟨s0, s1, s2, s3, s4⟩
      go_simp
      with_reducible rfl
    rotate_left; focus (simp only [Act.put, z1, z2, z3, i64_w, i32_w]; rfl)
    refine take_ (i := 7) (N := some 93) (v := ?_) (a' := ?_) #[true,true,true,true,true,true,true,true,true,false,true,false,true,true,true,true,false,false,false,false,false,false,false,false] rfl rfl (take_ofW HT_.out HW_.out (by kernel_rfl)) (fun _ _ _ h => h) (Or.inl ⟨by rfl, ?_⟩) hHeld ?_ ?_
    rotate_left
    · rintro w' ⟨s0, s1, s2, s3, s4⟩
      go_simp
      with_reducible rfl
    rotate_left; focus (simp only [Act.put, z1, z2, z3, i64_w, i32_w]; rfl)
    refine take_ (i := 9) (N := some 95) (v := ?_) (a' := ?_) #[true,true,true,true,true,true,true,true,true,true,true,false,true,true,true,true,false,false,false,false,false,false,false,false] rfl rfl (take_ofW HT_.out HW_.out (by kernel_rfl)) (fun _ _ _ h => h) (Or.inl ⟨by rfl, ?_⟩) hHeld ?_ ?_
    rotate_left
    · rintro w' ⟨s0, s1, s2, s3, s4⟩
      go_simp
      with_reducible rfl
    rotate_left; focus (simp only [Act.put, z1, z2, z3, i64_w, i32_w]; rfl)
    refine pure_ (i := 11) (N := some 97) (v := ?_) (a' := ?_) (zb 16 8) rfl rfl (any_of HT_.out (by kernel_rfl)) (fun _ _ _ h => h) (Or.inl ⟨by rfl, ?_⟩) ?_ ?_
    rotate_left; focus (intro w'; go_simp; with_reducible rfl)
    rotate_left; focus (simp only [Act.put, z1, z2, z3, i64_w, i32_w]; rfl)
    refine take_ (i := 16) (N := some 102) (v := ?_) (a' := ?_) (zb 17 7) rfl rfl (take_ofW HT_.out HW_.out (by kernel_rfl)) (fun _ _ _ h => h) (Or.inl ⟨by rfl, ?_⟩) hHeld ?_ ?_
    rotate_left
    · rintro w' ⟨s0, s1, s2, s3, s4⟩
      go_simp
      with_reducible rfl
    rotate_left; focus (simp only [Act.put, z1, z2, z3, i64_w, i32_w]; rfl)
    refine take_ (i := 17) (N := some 103) (v := ?_) (a' := ?_) (zb 18 6) rfl rfl (take_ofW HT_.out HW_.out (by kernel_rfl)) (fun _ _ _ h => h) (Or.inl ⟨by rfl, ?_⟩) hHeld ?_ ?_
    rotate_left
    · rintro w' ⟨s0, s1, s2, s3, s4⟩
      go_simp
      with_reducible rfl
    rotate_left; focus (simp only [Act.put, z1, z2, z3, i64_w, i32_w]; rfl)
    refine one_ (i := 18) (N := some 104) (zb 19 5) rfl rfl (one_of HT_.out (by kernel_rfl)) (by decide) (fun K hK => ?_)
    refine goes_ Try.func55 (by kernel_rfl) rfl #[.int .i64 (rd l0 x12_1), .int .i64 (rd l1 x12_1), .int .i64 (wrap64 (a2_0 + x13_2)), .slice A175_0 (rd_L6 x10_40 (ji56)).length c175_0, .agg #[.int .i64 a2_0, .int .i64 a2_1]] (by rfl) rfl rfl (by (try simp only [List.map_toArray, List.map_cons, List.map_nil]); first | done | (simp only [hji56]; rfl) | rfl | (simp only [List.length_drop, List.length_take]; rfl)) ?_
    with_reducible refine (legal_cost.calls (rd l0 x12_1) (rd l1 x12_1) (wrap64 (a2_0 + x13_2)) _ _ (rd_L6 x10_40 (ji56)) a2_0 a2_1 t176 t177 _ ?side1 ?side2 A59.out).mono ?_
    (case side1 => repeat (first | exact (by repeat (first | (with_reducible exact HR175_0.out) | (with_reducible refine Kd.C_alloc ?_ _) | (with_reducible refine Kd.C_drewN ?_ _) | (with_reducible refine Kd.C_drew ?_) | exact HR175_0.out)) | (with_reducible refine Kd.C_alloc ?_ _) | (with_reducible refine Kd.C_drewN ?_ _) | (with_reducible refine Kd.C_drew ?_)))
    (case side2 => exact HC175_0.out)
    rintro e w62 ⟨rfl, hb⟩
    have HS4_ := (hb.cell (World.block_lt_of_cell? _ _ (hHeld.2.2.2.2))).trans (hHeld.2.2.2.2)
    refine ⟨_, rfl, ?_⟩
    have n0_ := Aside0.mk (Kd.S_below (by (with_reducible repeat (first | apply Kd.S_alloc | apply Kd.S_drewN | apply Kd.S_drew)); exact HO_10.out) hb)
    have n1_ := Aside0.mk (Kd.R_below (by (with_reducible repeat (first | apply Kd.R_alloc | apply Kd.R_drewN | apply Kd.R_drew)); exact HL175_0.out) hb)
    have n2_ := Aside0.mk (blk_below (g := gb150) (o := .cells #[.int .i64 a2_0, .int .i64 a2_1] 62 (0, 0)) (by (with_reducible repeat (first | refine blk_drewN ?_ _ | refine blk_drew ?_ | refine blk_alloc ?_ _)); exact BK150.out) hb)
    have n3_ := Aside0.mk (Kd.C_below (by repeat (first | (with_reducible exact HR175_0.out) | (with_reducible refine Kd.C_alloc ?_ _) | (with_reducible refine Kd.C_drewN ?_ _) | (with_reducible refine Kd.C_drew ?_) | exact HR175_0.out)) hb)
    have n4_ := Aside0.mk (pw_cell_below hb HX175_0.out)
    have n5_ := Aside0.mk (below_step (by repeat (first | (with_reducible first | exact HB.out | apply below_alloc | apply pw_below_drewN | apply below_drew1 | refine below_set ?_ GE150.out) | exact HB.out)) hb)
    clear HO_10
    clear HL175_0
    clear BK150
    clear HR175_0
    clear HX175_0
    clear HB
    have HO_10 := n0_
    have BK150 := n2_
    have HR175_0 := n3_
    have HB := n5_
    clear n0_ n1_ n2_ n3_ n4_ n5_
    (try clear hb)
    (try clear hb2)
    (try clear hk)
    (try clear hi)
    refine hK.out _ _ ⟨(blk_cell BK150.out 0).trans rfl, (blk_cell BK150.out 1).trans rfl, ((HB.out.cell (World.block_lt_of_cell? w _ hw173_0)).trans hw173_0), ((HB.out.cell (World.block_lt_of_cell? w _ hw174_0)).trans hw174_0), HS4_⟩ (fun hHeld => ?_)
    clear hK K
    refine norm_ (a' := ?_) ?_ ?_
    rotate_left; focus (show Act.put _ (some 104) _ = _; simp only [Act.put, z1, z2, z3, i64_w, i32_w]; rfl)
    refine pure_ (i := 19) (N := some 85) (v := ?_) (a' := ?_) (zb 20 4) rfl rfl (any_of HT_.out (by kernel_rfl)) (fun _ _ _ h => h) (Or.inl ⟨by rfl, ?_⟩) ?_ ?_
    rotate_left; focus (intro w'; go_simp; with_reducible rfl)
    rotate_left; focus (simp only [Act.put, z1, z2, z3, i64_w, i32_w]; rfl)
    refine pure_ (i := 20) (N := some 105) (v := ?_) (a' := ?_) (zb 21 3) rfl rfl (any_of HT_.out (by kernel_rfl)) (fun _ _ _ h => h) (Or.inl ⟨by rfl, ?_⟩) ?_ ?_
    rotate_left; focus (intro w'; go_simp; with_reducible rfl)
    rotate_left; focus (simp only [Act.put, z1, z2, z3, i64_w, i32_w]; rfl)
    refine pure_ (i := 21) (N := some 106) (v := ?_) (a' := ?_) (zb 22 2) rfl rfl (any_of HT_.out (by kernel_rfl)) (fun _ _ _ h => h) (Or.inl ⟨by rfl, ?_⟩) ?_ ?_
    rotate_left; focus (intro w'; go_simp; with_reducible rfl)
    rotate_left; focus (simp only [Act.put, z1, z2, z3, i64_w, i32_w]; rfl)
    refine pure_ (i := 22) (N := some 14) (v := ?_) (a' := ?_) (zb 23 1) rfl rfl (any_of HT_.out (by kernel_rfl)) (fun _ _ _ h => h) (Or.inl ⟨by rfl, ?_⟩) ?_ ?_
    rotate_left; focus (intro w'; go_simp; with_reducible rfl)
    rotate_left; focus (simp only [Act.put, z1, z2, z3, i64_w, i32_w]; rfl)
    refine pure_ (i := 23) (N := some 15) (v := ?_) (a' := ?_) (zb 24 0) rfl rfl (any_of HT_.out (by kernel_rfl)) (fun _ _ _ h => h) (Or.inl ⟨by rfl, ?_⟩) ?_ ?_
    rotate_left; focus (intro w'; go_simp; with_reducible rfl)
    rotate_left; focus (simp only [Act.put, z1, z2, z3, i64_w, i32_w]; rfl)
    refine done_ (done_of HT_.out (by kernel_rfl)) ?_
    go_upto_region 19 with (fail)
    go_cut [128] (fun v128 wc => ∃ (kq : Nat) (x128_59 : Bool), v128 = .bool x128_59 ∧ Aside0 (legal_Row.j3 kq l0 l1 x10_40 ji9 x12_1 x13_2 t176 x128_59 a2_0 a2_1 = some (r1, r2)) ∧ Aside0 (kq ≤ kj40) ∧ Aside0 (Kd.S (Kd.slice 3 (Kd.int .i64)) 25 wc w.heap.size (fun _ => True) (.slice (some ⟨go14, 0, none⟩) x10_40.length co14) x10_40) ∧ Aside0 (wc.heap[gb150]? = some (.cells #[.int .i64 a2_0, .int .i64 a2_1] 62 (0, 0))) ∧ Aside0 (Kd.C (Kd.int .i64) wc A175_0 (rd_L6 x10_40 (ji56)).length (rd_L6 x10_40 (ji56))) ∧ Aside0 (Below w.heap.size w wc))
    case first =>
     have H := HC60.out
     clear HC60
     by_cases c63 : t177 = true
     rotate_left
     · replace c63 := Bool.eq_false_iff.mpr c63
       subst c63
       have H1 : (legal_Row.j3 kj40 l0 l1 x10_40 ji9 x12_1 x13_2 t176 false a2_0 a2_1) = some (r1, r2) := by rw [if_neg (show ¬ (false = true) by decide)] at H; exact H
       clear H
       have H := H1
       clear H1
       have H' := Aside0.mk H
       clear H
       go_wp2
       go_meet
       case rel => exact ⟨_, (false), (by first | rfl | (simp; done) | (simp [*]; done)), H', ⟨by have := HK1.out; have := HK2.out; have := HJ40.out; first | omega | exact Nat.le_refl _⟩, ⟨by (try simp only [hl10_1]); (try simp only [hl10_2]); (try simp only [hl10_40]); (with_reducible repeat (first | apply Kd.S_alloc | apply Kd.S_drewN | apply Kd.S_drew)); exact HO_10.out⟩, ⟨by (try simp only [hl10_1]); (try simp only [hl10_2]); (try simp only [hl10_40]); (with_reducible repeat (first | refine blk_drewN ?_ _ | refine blk_drew ?_ | refine blk_alloc ?_ _)); exact BK150.out⟩, ⟨by repeat (first | (with_reducible exact HR175_0.out) | (with_reducible refine Kd.C_alloc ?_ _) | (with_reducible refine Kd.C_drewN ?_ _) | (with_reducible refine Kd.C_drew ?_) | exact HR175_0.out)⟩, ⟨by repeat (first | (with_reducible first | exact HB.out | apply below_alloc | apply pw_below_drewN | apply below_drew1 | refine below_set ?_ GE150.out) | exact HB.out)⟩⟩
     subst c63
     have H1 : (if x12_1 < (x10_40.length : Int) then (if 0 ≤ x13_2 then (if x13_2 < ((rd_L6 x10_40 x12_1).length : Int) then (if (rd (rd_L6 x10_40 x12_1) x13_2) < 0 then (legal_Row.j3 kj40 l0 l1 x10_40 ji9 x12_1 x13_2 t176 true a2_0 a2_1) else (legal_Row.j3 kj40 l0 l1 x10_40 ji9 x12_1 x13_2 t176 (decide (t176 ≤ (rd (rd_L6 x10_40 x12_1) x13_2))) a2_0 a2_1)) else (none)) else (none)) else (none)) = some (r1, r2) := by rw [if_pos rfl] at H; exact H
     clear H
     have H := H1
     clear H1
     by_cases c64 : x12_1 < (x10_40.length : Int)
     rotate_left
     · rw [if_neg c64] at H
       exact absurd H (by simp)
     rw [if_pos c64] at H
     have c64b0 : decide (x12_1 < (x10_40.length : Int)) = true := decide_eq_true c64
     clear c64
     (first | rw [c64b0] | (simp only [i64_w, i32_w]; rw [c64b0]) | skip)
     by_cases c65 : 0 ≤ x13_2
     rotate_left
     · rw [if_neg c65] at H
       exact absurd H (by simp)
     rw [if_pos c65] at H
     have c65b0 : decide (0 ≤ x13_2) = true := decide_eq_true c65
     clear c65
     by_cases c66 : x13_2 < ((rd_L6 x10_40 x12_1).length : Int)
     rotate_left
     · rw [if_neg c66] at H
       exact absurd H (by simp)
     rw [if_pos c66] at H
     have c66b0 : decide (x13_2 < ((rd_L6 x10_40 x12_1).length : Int)) = true := decide_eq_true c66
     clear c66
     by_cases c67 : (rd (rd_L6 x10_40 x12_1) x13_2) < 0
     · rw [if_pos c67] at H
       have c67b0 : decide ((rd (rd_L6 x10_40 x12_1) x13_2) < 0) = true := decide_eq_true c67
       clear c67
       have H' := Aside0.mk H
       clear H
       have p178 : 0 ≤ (x12_1 : Int) := of_decide_eq_true (by first | (with_reducible assumption) | assumption)
       have q178 : x12_1 < (x10_40.length : Int) := of_decide_eq_true (by first | (with_reducible assumption) | assumption)
       obtain ⟨ad178, A178_0, c178_0, e178, hx178_0, hl178_0, hi178_0⟩ := at_L6 (Kd.S_reads' HO_10.out).2.2 x12_1 p178 q178
       obtain rfl : (⟨go14, 0, none⟩ : Addr) = ad178 := (by injection e178)
       obtain ⟨ce178, hce178, hMe178, hcc178⟩ := Kd.S_get HO_10.out [] x12_1 p178 (by first | exact q178 | exact of_decide_eq_true (by first | (with_reducible assumption) | assumption) | (have e_ := (Kd.S_reads' HO_10.out).1; omega))
       obtain ⟨ve178_0, rfl, ge178_0⟩ := hMe178
       have hv178_0 := hcc178 0 _ rfl
       rw [Nat.add_zero, show ((Kd.slice 3 (Kd.int .i64))).sz = 1 from rfl, Nat.mul_one] at hv178_0
       replace hv178_0 := Option.some.inj (hv178_0.symm.trans hx178_0)
       rw [hv178_0] at ge178_0
       have HL178_0 := Aside0.mk (show Kd.R (Kd.int .i64) 3 _ _ _ _ (rd_L6 x10_40 x12_1) from ge178_0)
       clear hv178_0 ge178_0
       have HX178_0 := Aside0.mk hx178_0
       clear hcc178 hce178
       (first | simp only [add_plain] at hx178_0 | simp only [add_at] at hx178_0 | simp only [Addr.add, Nat.zero_add] at hx178_0 | skip)
       have HR178_0 := Aside0.mk hi178_0
       clear hi178_0 hl178_0
       replace p178 := eq_true p178
       replace q178 := eq_true q178
       have p179 : 0 ≤ (x13_2 : Int) := of_decide_eq_true (by first | (with_reducible assumption) | assumption)
       have q179 : x13_2 < ((rd_L6 x10_40 x12_1).length : Int) := of_decide_eq_true (by first | (with_reducible assumption) | assumption)
       obtain ⟨ad179, e179, hx179_0⟩ := Kd.at_int (by repeat (first | (with_reducible exact HR178_0.out) | (with_reducible refine Kd.C_alloc ?_ _) | (with_reducible refine Kd.C_drewN ?_ _) | (with_reducible refine Kd.C_drew ?_) | exact HR178_0.out)) x13_2 p179 q179
       cases e179
       replace p179 := eq_true p179
       replace q179 := eq_true q179
       go_wp2
       go_meet
       case rel => exact ⟨_, (true), (by first | rfl | (simp; done) | (simp [*]; done)), H', ⟨by have := HK1.out; have := HK2.out; have := HJ40.out; first | omega | exact Nat.le_refl _⟩, ⟨by (try simp only [hl10_1]); (try simp only [hl10_2]); (try simp only [hl10_40]); (with_reducible repeat (first | apply Kd.S_alloc | apply Kd.S_drewN | apply Kd.S_drew)); exact HO_10.out⟩, ⟨by (try simp only [hl10_1]); (try simp only [hl10_2]); (try simp only [hl10_40]); (with_reducible repeat (first | refine blk_drewN ?_ _ | refine blk_drew ?_ | refine blk_alloc ?_ _)); exact BK150.out⟩, ⟨by repeat (first | (with_reducible exact HR175_0.out) | (with_reducible refine Kd.C_alloc ?_ _) | (with_reducible refine Kd.C_drewN ?_ _) | (with_reducible refine Kd.C_drew ?_) | exact HR175_0.out)⟩, ⟨by repeat (first | (with_reducible first | exact HB.out | apply below_alloc | apply pw_below_drewN | apply below_drew1 | refine below_set ?_ GE150.out) | exact HB.out)⟩⟩
     rw [if_neg c67] at H
     have c67b0 : decide ((rd (rd_L6 x10_40 x12_1) x13_2) < 0) = false := decide_eq_false c67
     clear c67
     have H' := Aside0.mk H
     clear H
     have p178 : 0 ≤ (x12_1 : Int) := of_decide_eq_true (by first | (with_reducible assumption) | assumption)
     have q178 : x12_1 < (x10_40.length : Int) := of_decide_eq_true (by first | (with_reducible assumption) | assumption)
     obtain ⟨ad178, A178_0, c178_0, e178, hx178_0, hl178_0, hi178_0⟩ := at_L6 (Kd.S_reads' HO_10.out).2.2 x12_1 p178 q178
     obtain rfl : (⟨go14, 0, none⟩ : Addr) = ad178 := (by injection e178)
     obtain ⟨ce178, hce178, hMe178, hcc178⟩ := Kd.S_get HO_10.out [] x12_1 p178 (by first | exact q178 | exact of_decide_eq_true (by first | (with_reducible assumption) | assumption) | (have e_ := (Kd.S_reads' HO_10.out).1; omega))
     obtain ⟨ve178_0, rfl, ge178_0⟩ := hMe178
     have hv178_0 := hcc178 0 _ rfl
     rw [Nat.add_zero, show ((Kd.slice 3 (Kd.int .i64))).sz = 1 from rfl, Nat.mul_one] at hv178_0
     replace hv178_0 := Option.some.inj (hv178_0.symm.trans hx178_0)
     rw [hv178_0] at ge178_0
     have HL178_0 := Aside0.mk (show Kd.R (Kd.int .i64) 3 _ _ _ _ (rd_L6 x10_40 x12_1) from ge178_0)
     clear hv178_0 ge178_0
     have HX178_0 := Aside0.mk hx178_0
     clear hcc178 hce178
     (first | simp only [add_plain] at hx178_0 | simp only [add_at] at hx178_0 | simp only [Addr.add, Nat.zero_add] at hx178_0 | skip)
     have HR178_0 := Aside0.mk hi178_0
     clear hi178_0 hl178_0
     replace p178 := eq_true p178
     replace q178 := eq_true q178
     have p179 : 0 ≤ (x13_2 : Int) := of_decide_eq_true (by first | (with_reducible assumption) | assumption)
     have q179 : x13_2 < ((rd_L6 x10_40 x12_1).length : Int) := of_decide_eq_true (by first | (with_reducible assumption) | assumption)
     obtain ⟨ad179, e179, hx179_0⟩ := Kd.at_int (by repeat (first | (with_reducible exact HR178_0.out) | (with_reducible refine Kd.C_alloc ?_ _) | (with_reducible refine Kd.C_drewN ?_ _) | (with_reducible refine Kd.C_drew ?_) | exact HR178_0.out)) x13_2 p179 q179
     cases e179
     replace p179 := eq_true p179
     replace q179 := eq_true q179
     have p180 : 0 ≤ (x12_1 : Int) := of_decide_eq_true (by first | (with_reducible assumption) | assumption)
     have q180 : x12_1 < (x10_40.length : Int) := of_decide_eq_true (by first | (with_reducible assumption) | assumption)
     obtain ⟨ad180, A180_0, c180_0, e180, hx180_0, hl180_0, hi180_0⟩ := at_L6 (Kd.S_reads' HO_10.out).2.2 x12_1 p180 q180
     obtain rfl : (⟨go14, 0, none⟩ : Addr) = ad180 := (by injection e180)
     obtain ⟨ce180, hce180, hMe180, hcc180⟩ := Kd.S_get HO_10.out [] x12_1 p180 (by first | exact q180 | exact of_decide_eq_true (by first | (with_reducible assumption) | assumption) | (have e_ := (Kd.S_reads' HO_10.out).1; omega))
     obtain ⟨ve180_0, rfl, ge180_0⟩ := hMe180
     have hv180_0 := hcc180 0 _ rfl
     rw [Nat.add_zero, show ((Kd.slice 3 (Kd.int .i64))).sz = 1 from rfl, Nat.mul_one] at hv180_0
     replace hv180_0 := Option.some.inj (hv180_0.symm.trans hx180_0)
     rw [hv180_0] at ge180_0
     have HL180_0 := Aside0.mk (show Kd.R (Kd.int .i64) 3 _ _ _ _ (rd_L6 x10_40 x12_1) from ge180_0)
     clear hv180_0 ge180_0
     have HX180_0 := Aside0.mk hx180_0
     clear hcc180 hce180
     (first | simp only [add_plain] at hx180_0 | simp only [add_at] at hx180_0 | simp only [Addr.add, Nat.zero_add] at hx180_0 | skip)
     have HR180_0 := Aside0.mk hi180_0
     have HC180_0 := Aside0.mk hl180_0
     clear hi180_0 hl180_0
     replace p180 := eq_true p180
     replace q180 := eq_true q180
     have ea_ := Option.some.inj (hx178_0.symm.trans hx180_0)
     injection ea_ with ea_ en_ ec_
     subst ea_
     subst ec_
     clear en_
     have p181 : 0 ≤ (x13_2 : Int) := of_decide_eq_true (by first | (with_reducible assumption) | assumption)
     have q181 : x13_2 < ((rd_L6 x10_40 x12_1).length : Int) := of_decide_eq_true (by first | (with_reducible assumption) | assumption)
     obtain ⟨ad181, e181, hx181_0⟩ := Kd.at_int (by repeat (first | (with_reducible exact HR180_0.out) | (with_reducible refine Kd.C_alloc ?_ _) | (with_reducible refine Kd.C_drewN ?_ _) | (with_reducible refine Kd.C_drew ?_) | exact HR180_0.out)) x13_2 p181 q181
     cases e181
     replace p181 := eq_true p181
     replace q181 := eq_true q181
     go_wp2
     go_meet
     case rel => exact ⟨_, (decide (t176 ≤ (rd (rd_L6 x10_40 x12_1) x13_2))), (by first | rfl | (simp; done) | (simp [*]; done)), H', ⟨by have := HK1.out; have := HK2.out; have := HJ40.out; first | omega | exact Nat.le_refl _⟩, ⟨by (try simp only [hl10_1]); (try simp only [hl10_2]); (try simp only [hl10_40]); (with_reducible repeat (first | apply Kd.S_alloc | apply Kd.S_drewN | apply Kd.S_drew)); exact HO_10.out⟩, ⟨by (try simp only [hl10_1]); (try simp only [hl10_2]); (try simp only [hl10_40]); (with_reducible repeat (first | refine blk_drewN ?_ _ | refine blk_drew ?_ | refine blk_alloc ?_ _)); exact BK150.out⟩, ⟨by repeat (first | (with_reducible exact HR175_0.out) | (with_reducible refine Kd.C_alloc ?_ _) | (with_reducible refine Kd.C_drewN ?_ _) | (with_reducible refine Kd.C_drew ?_) | exact HR175_0.out)⟩, ⟨by repeat (first | (with_reducible first | exact HB.out | apply below_alloc | apply pw_below_drewN | apply below_drew1 | refine below_set ?_ GE150.out) | exact HB.out)⟩⟩
    clear HC60
    clear c53b0 c54b0 c55b0 c57b0 c58b0 hx173_0 hx174_0 hx175_0 p173 p174 p175 q173 q174 q175
    obtain ⟨kq, x128_59, rfl, HA, HJ59, HO_10, BK150, HR175_0, HB⟩ := hcut
    cases kq with
    | zero => exact absurd HA.out (by simp [legal_Row.j3])
    | succ kj59 =>
     have H := HA.out
     clear HA
     simp only [legal_Row.j3] at H
     by_cases c68 : x128_59 = true
     rotate_left
     · replace c68 := Bool.eq_false_iff.mpr c68
       subst c68
       have H1 : (legal_Row.l1 kj59 l0 l1 x10_40 ji9 x12_1 (wrap64 (x13_2 - 1)) a2_0 a2_1) = some (r1, r2) := by rw [if_neg (show ¬ (false = true) by decide)] at H; exact H
       clear H
       have H := H1
       clear H1
       have H' := Aside0.mk H
       clear H
       go_wp2
       (try simp only [← hl10_2, ← hl10_40])
       go_roundg kj59
       case measure => have := HK1.out; have := HK2.out; have := HJ40.out; have := HJ59.out; omega
       case rel => exact ⟨(x10_40), (wrap64 (x13_2 - 1)), (by first | rfl | (simp; done) | (simp [*]; done)), H', ⟨by have := HK1.out; have := HK2.out; have := HJ40.out; have := HJ59.out; omega⟩, ⟨by (try simp only [hl10_1]); (try simp only [hl10_2]); (try simp only [hl10_40]); (with_reducible repeat (first | apply Kd.S_alloc | apply Kd.S_drewN | apply Kd.S_drew)); exact HO_10.out⟩, ⟨by (try simp only [hl10_1]); (try simp only [hl10_2]); (try simp only [hl10_40]); (with_reducible repeat (first | refine blk_drewN ?_ _ | refine blk_drew ?_ | refine blk_alloc ?_ _)); exact BK150.out⟩, ⟨by repeat (first | (with_reducible first | exact HB.out | apply below_alloc | apply pw_below_drewN | apply below_drew1 | refine below_set ?_ GE150.out) | exact HB.out)⟩⟩
     subst c68
     have H1 : (if 0 ≤ x12_1 then (if x12_1 < (x10_40.length : Int) then (if 0 ≤ x13_2 then (if x13_2 < ((rd_L6 x10_40 x12_1).length : Int) then (legal_Row.l1 kj59 l0 l1 (x10_40.set (x12_1 : Int).toNat ((rd_L6 x10_40 x12_1).set (x13_2 : Int).toNat t176)) ji9 x12_1 (wrap64 (x13_2 - 1)) a2_0 a2_1) else (none)) else (none)) else (none)) else (none)) = some (r1, r2) := by rw [if_pos rfl] at H; exact H
     clear H
     have H := H1
     clear H1
     by_cases c69 : 0 ≤ x12_1
     rotate_left
     · rw [if_neg c69] at H
       exact absurd H (by simp)
     rw [if_pos c69] at H
     have c69b0 : decide (0 ≤ x12_1) = true := decide_eq_true c69
     clear c69
     by_cases c70 : x12_1 < (x10_40.length : Int)
     rotate_left
     · rw [if_neg c70] at H
       exact absurd H (by simp)
     rw [if_pos c70] at H
     have c70b0 : decide (x12_1 < (x10_40.length : Int)) = true := decide_eq_true c70
     clear c70
     by_cases c71 : 0 ≤ x13_2
     rotate_left
     · rw [if_neg c71] at H
       exact absurd H (by simp)
     rw [if_pos c71] at H
     have c71b0 : decide (0 ≤ x13_2) = true := decide_eq_true c71
     clear c71
     by_cases c72 : x13_2 < ((rd_L6 x10_40 x12_1).length : Int)
     rotate_left
     · rw [if_neg c72] at H
       exact absurd H (by simp)
     rw [if_pos c72] at H
     have c72b0 : decide (x13_2 < ((rd_L6 x10_40 x12_1).length : Int)) = true := decide_eq_true c72
     clear c72
     obtain ⟨y183, hy183⟩ : ∃ y_ : List Int, y_ = ((rd_L6 x10_40 x12_1).set (x13_2 : Int).toNat t176) := ⟨_, rfl⟩
     replace H : (legal_Row.l1 kj59 l0 l1 (x10_40.set (x12_1 : Int).toNat y183) ji9 x12_1 (wrap64 (x13_2 - 1)) a2_0 a2_1) = some (r1, r2) := by first | (rw [hy183]; with_reducible exact H) | (have H2_ := (Option.bind_some _ _).symm.trans H; rw [hy183]; with_reducible exact H2_) | (have H2_ := (Option.bind_some _ _).symm.trans H; with_reducible exact H2_) | with_reducible exact H | (rw [hy183]; exact H) | exact H
     have Ny183 := Aside0.mk hy183
     clear hy183
     obtain ⟨y185, hy185⟩ : ∃ y_ : List (List Int), y_ = (x10_40.set (x12_1 : Int).toNat y183) := ⟨_, rfl⟩
     replace H : (legal_Row.l1 kj59 l0 l1 y185 ji9 x12_1 (wrap64 (x13_2 - 1)) a2_0 a2_1) = some (r1, r2) := by first | (rw [hy185]; with_reducible exact H) | (have H2_ := (Option.bind_some _ _).symm.trans H; rw [hy185]; with_reducible exact H2_) | (have H2_ := (Option.bind_some _ _).symm.trans H; with_reducible exact H2_) | with_reducible exact H | (rw [hy185]; exact H) | exact H
     have Ny185 := Aside0.mk hy185
     clear hy185
     have H' := Aside0.mk H
     clear H
     have p182 : 0 ≤ (x12_1 : Int) := of_decide_eq_true (by first | (with_reducible assumption) | assumption)
     have q182 : x12_1 < (x10_40.length : Int) := of_decide_eq_true (by first | (with_reducible assumption) | assumption)
     obtain ⟨ad182, A182_0, c182_0, e182, hx182_0, hl182_0, hi182_0⟩ := at_L6 (Kd.S_reads' HO_10.out).2.2 x12_1 p182 q182
     obtain rfl : (⟨go14, 0, none⟩ : Addr) = ad182 := (by injection e182)
     obtain ⟨ce182, hce182, hMe182, hcc182⟩ := Kd.S_get HO_10.out [] x12_1 p182 (by first | exact q182 | exact of_decide_eq_true (by first | (with_reducible assumption) | assumption) | (have e_ := (Kd.S_reads' HO_10.out).1; omega))
     obtain ⟨ve182_0, rfl, ge182_0⟩ := hMe182
     have hv182_0 := hcc182 0 _ rfl
     rw [Nat.add_zero, show ((Kd.slice 3 (Kd.int .i64))).sz = 1 from rfl, Nat.mul_one] at hv182_0
     replace hv182_0 := Option.some.inj (hv182_0.symm.trans hx182_0)
     rw [hv182_0] at ge182_0
     have HL182_0 := Aside0.mk (show Kd.R (Kd.int .i64) 3 _ _ _ _ (rd_L6 x10_40 x12_1) from ge182_0)
     clear hv182_0 ge182_0
     have HX182_0 := Aside0.mk hx182_0
     clear hcc182 hce182
     (first | simp only [add_plain] at hx182_0 | simp only [add_at] at hx182_0 | simp only [Addr.add, Nat.zero_add] at hx182_0 | skip)
     have HR182_0 := Aside0.mk hi182_0
     clear hi182_0 hl182_0
     replace p182 := eq_true p182
     replace q182 := eq_true q182
     have p73 : 0 ≤ (x13_2 : Int) := of_decide_eq_true (by first | (with_reducible assumption) | assumption)
     have q73 : (x13_2 : Int) < (((rd_L6 x10_40 x12_1).length : Int) : Int) := of_decide_eq_true (by first | (with_reducible assumption) | assumption)
     obtain ⟨go73, co73, eo73, gb73, gl73, cl73, HG73⟩ := Kd.R_form HL182_0.out (by omega)
     (first | cases eo73 | (injection eo73 with ea_ en_ ec_; (first | subst ea_ | (injection ea_ with ea_; subst ea_)); subst ec_; clear en_))
     have GB73 := Aside0.mk gb73
     clear gb73 gl73 HG73
     obtain ⟨hx73_0, hf73_0⟩ := Kd.R_celln 0 HL182_0.out (x13_2 : Int) p73 q73
     replace p73 := eq_true p73
     replace q73 := eq_true q73
     have hq74 : (x12_1 : Int) < (x10_40.length : Int) := (by have h_ : (x12_1 : Int) < ((x10_40.length : Int) : Int) := of_decide_eq_true (by first | (with_reducible assumption) | assumption); first | exact h_ | (have e_ := (Kd.S_reads' HO_10.out).1; omega) | simpa only [List.length_set, List.length_set] using h_)
     obtain ⟨oki74, ce74, hcl74, hM74, hcc74, hok74, hbk74⟩ := Kd.S_borrow HO_10.out [] (x12_1 : Int) (of_decide_eq_true (by first | (with_reducible assumption) | assumption)) (by first | exact hq74 | exact of_decide_eq_true (by first | (with_reducible assumption) | assumption))
     obtain ⟨ve74_0, rfl, ge74_0⟩ := hM74
     have hv74 := hcc74 0 _ rfl
     rw [Nat.add_zero, show ((Kd.slice 3 (Kd.int .i64))).sz = 1 from rfl, Nat.mul_one] at hv74
     replace hv74 := Option.some.inj (hv74.symm.trans HX182_0.out)
     subst hv74
     clear hcc74 hcl74
     replace ge74_0 := (show Kd.R (Kd.int .i64) 3 _ _ _ _ (rd_L6 x10_40 x12_1) from ge74_0)
     have HP74 := Kd.R_putg ge74_0 (x13_2 : Int) t176
     go_wp2_with ((with_reducible refine gate_store (t := 3) (p := 135) rfl ?_); refine store_event (t := 3) (p := 135) (v := ?vo_w75) (w1 := (wc.setCell ⟨go73, (x13_2 : Int).toNat, none⟩ (.int .i64 t176))) ?hg ?ho ?hn ?hr ?_; (case ho => rfl); (case hg => rfl); (case hn => rfl); (case hr => first | (go_simp; done) | (go_simp; rfl)); intro w75 hw; have hg : wc.grownBy w75 (some go73) := (by rw [hw]; exact HP74.2); have hz_ : Kd.R (Kd.int .i64) 3 w75 w.heap.size oki74 (.slice (some ⟨go73, 0, none⟩) (rd_L6 x10_40 x12_1).length c182_0) y183 := (by rw [hw, Ny183.out]; exact HP74.1); have hp_ : Kd.S (Kd.slice 3 (Kd.int .i64)) 25 w75 w.heap.size (fun _ => True) (.slice (some ⟨go14, 0, none⟩) x10_40.length co14) y185 := (by rw [Ny185.out]; exact hbk74 hg (fun k_ e_ => by injection e_ with e_; subst e_; exact ge74_0.1 _ rfl) (Kd.M_row hz_)); have hm_ := Kd.R_mono hz_ hok74; clear HP74 hbk74; have n0_ := Aside0.mk (hp_); have n1_ := Aside0.mk (blk_grown (g := gb150) (o := .cells #[.int .i64 a2_0, .int .i64 a2_1] 62 (0, 0)) (by (with_reducible repeat (first | refine blk_drewN ?_ _ | refine blk_drew ?_ | refine blk_alloc ?_ _)); exact BK150.out) hg (Kd.R_ne HL182_0.out BK150.out (by decide))); have n2_ := Aside0.mk ((by rw [hw]; exact below_set (HB.out) GB73.out : Below w.heap.size w w75)); have n3_ := Aside0.mk (hm_); have n4_ := Aside0.mk ((Kd.R_reads' hm_).2.1); clear HO_10; clear BK150; clear HB; clear HL182_0; have HO_10 := n0_; have BK150 := n1_; have HB := n2_; clear n0_ n1_ n2_ n3_ n4_; clear hg hw hp_ hz_ hm_ hok74)
     (try simp only [← hl10_2, ← hl10_40])
     go_roundg kj59
     case measure => have := HK1.out; have := HK2.out; have := HJ40.out; have := HJ59.out; omega
     case rel => exact ⟨(y185), (wrap64 (x13_2 - 1)), (by first | rfl | (simp; done) | (simp [*]; done)), H', ⟨by have := HK1.out; have := HK2.out; have := HJ40.out; have := HJ59.out; omega⟩, ⟨by (try simp only [hl10_1]); (try simp only [hl10_2]); (try simp only [hl10_40]); (with_reducible repeat (first | apply Kd.S_alloc | apply Kd.S_drewN | apply Kd.S_drew)); exact HO_10.out⟩, ⟨by (try simp only [hl10_1]); (try simp only [hl10_2]); (try simp only [hl10_40]); (with_reducible repeat (first | refine blk_drewN ?_ _ | refine blk_drew ?_ | refine blk_alloc ?_ _)); exact BK150.out⟩, ⟨by repeat (first | (with_reducible first | exact HB.out | apply below_alloc | apply pw_below_drewN | apply below_drew1 | refine below_set ?_ GE150.out) | exact HB.out)⟩⟩

end Go.Proofs.Ytgajgnemfccnhaa.PL
