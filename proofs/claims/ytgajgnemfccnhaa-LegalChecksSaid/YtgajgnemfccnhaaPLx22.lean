-- PRINTED by print.py (a twelfth state) out of the translation. Not trusted: Lean checks it.
import Derived.Test.YtgajgnemfccnhaaPLx0
import Derived.Test.YtgajgnemfccnhaaPLx14
import Derived.Test.YtgajgnemfccnhaaPLx20
import Derived.Test.YtgajgnemfccnhaaPLx21
namespace Go.Proofs.Ytgajgnemfccnhaa.PL
open Go.RowKit Go.Proofs.YtgajgnemfccnhaaW.PrintWords Go.Proofs.YtgajgnemfccnhaaW.PrintLast Go.Proofs.YtgajgnemfccnhaaW.PrintMore
attribute [local go_sem] max2_int min2_int max_two min_two max_three min_three max_four min_four   -- for this text's walks alone
private theorem z1 {α : Type} {l : List α} {i : Nat} {a : α} : l.toArray.setIfInBounds i a = (l.set i a).toArray := List.setIfInBounds_toArray _ _ _
private theorem z2 {α : Type} {x : α} {xs : List α} {a : α} : (x :: xs).set 0 a = a :: xs := List.set_cons_zero
private theorem z3 {α : Type} {x : α} {xs : List α} {n : Nat} {a : α} : (x :: xs).set (n + 1) a = x :: xs.set n a := List.set_cons_succ
private abbrev zb (n m : Nat) : Array Bool := (List.replicate n true ++ List.replicate m false).toArray
set_option linter.unusedVariables false
set_option linter.unusedSimpArgs false

/-! ### maskref4_SitesFault: function 37 -/
mutual
def maskref4_SitesFault.l0 : Nat → List Int → List (S47) → List (S47) → Int → Int → Int → Int → Int → List (S98) → List (S100) → List (S96) → Option (Int)
 | 0, _, _, _, _, _, _, _, _, _, _, _ => none
 | k + 1, x1, x2, x26, x27, x28, x286000, x286001, x286002, x286003, x286004, x286005 => if x28 < x27 then (if 0 ≤ x28 then (if x28 < (x26.length : Int) then (if x28 < (x1.length : Int) then ((maskref4_In.f (rd x1 x28) 1 40).bind fun t290 => (if t290 = true then ((maskref4_In.f ((rd_T47 x26 x28).f0) 0 (wrap64 (x286000 - 1))).bind fun t291 => (if t291 = true then (if ((rd_T47 x26 x28).f1) < 0 then (maskref4_SitesFault.j1 k x1 x2 x28 x26 x27 x28 true x286000 x286001 x286002 x286003 x286004 x286005 ((rd_T47 x26 x28).f0) ((rd_T47 x26 x28).f1)) else (maskref4_SitesFault.j1 k x1 x2 x28 x26 x27 x28 (decide (((rd_T47 x26 x28).f1) > (wrap64 (x286001 - (rd x1 x28))))) x286000 x286001 x286002 x286003 x286004 x286005 ((rd_T47 x26 x28).f0) ((rd_T47 x26 x28).f1))) else (maskref4_SitesFault.j1 k x1 x2 x28 x26 x27 x28 true x286000 x286001 x286002 x286003 x286004 x286005 ((rd_T47 x26 x28).f0) ((rd_T47 x26 x28).f1)))) else (maskref4_SitesFault.j1 k x1 x2 x28 x26 x27 x28 true x286000 x286001 x286002 x286003 x286004 x286005 ((rd_T47 x26 x28).f0) ((rd_T47 x26 x28).f1)))) else (none)) else (none)) else (none)) else (some 0)
def maskref4_SitesFault.j1 : Nat → List Int → List (S47) → Int → List (S47) → Int → Int → Bool → Int → Int → Int → List (S98) → List (S100) → List (S96) → Int → Int → Option (Int)
 | 0, _, _, _, _, _, _, _, _, _, _, _, _, _, _, _ => none
 | k + 1, x1, x2, x8, x26, x27, x28, x64, x286000, x286001, x286002, x286003, x286004, x286005, x289000, x289001 => if x64 = true then (some 2) else (maskref4_SitesFault.l1 k x1 x2 x8 x289001 x26 x27 x28 x286000 x286001 x286002 x286003 x286004 x286005 x289000 x289001)
def maskref4_SitesFault.l1 : Nat → List Int → List (S47) → Int → Int → List (S47) → Int → Int → Int → Int → Int → List (S98) → List (S100) → List (S96) → Int → Int → Option (Int)
 | 0, _, _, _, _, _, _, _, _, _, _, _, _, _, _, _ => none
 | k + 1, x1, x2, x8, x10, x26, x27, x28, x286000, x286001, x286002, x286003, x286004, x286005, x289000, x289001 => if 0 ≤ x8 then (if x8 < (x1.length : Int) then (if x10 < (wrap64 (x289001 + (rd x1 x8))) then ((maskref4_blocked.f k x286000 x286001 x286002 x286003 x286004 x286005 x289000 x10).bind fun t294 => (if t294 = true then (some 15) else (maskref4_SitesFault.l1 k x1 x2 x8 (wrap64 (x10 + 1)) x26 x27 x28 x286000 x286001 x286002 x286003 x286004 x286005 x289000 x289001))) else (if x8 ≤ (x2.length : Int) then ((some (x2.take (x8 : Int).toNat : List (S47))).bind fun y295 => (maskref4_SitesFault.l2 k x1 x2 x8 x26 x27 x28 y295 (y295.length : Int) 0 x286000 x286001 x286002 x286003 x286004 x286005 x289000 x289001)) else (none))) else (none)) else (none)
def maskref4_SitesFault.l2 : Nat → List Int → List (S47) → Int → List (S47) → Int → Int → List (S47) → Int → Int → Int → Int → Int → List (S98) → List (S100) → List (S96) → Int → Int → Option (Int)
 | 0, _, _, _, _, _, _, _, _, _, _, _, _, _, _, _, _, _ => none
 | k + 1, x1, x2, x8, x26, x27, x28, x85, x86, x87, x286000, x286001, x286002, x286003, x286004, x286005, x289000, x289001 => if x87 < x86 then (if 0 ≤ x87 then (if x87 < (x85.length : Int) then (if x289000 = ((rd_T47 x85 x87).f0) then (if x87 < (x1.length : Int) then (if x289001 < (wrap64 (((rd_T47 x85 x87).f1) + (rd x1 x87))) then (if 0 ≤ x8 then (if x8 < (x1.length : Int) then (maskref4_SitesFault.j4 k x1 x2 x8 x26 x27 x28 x85 x86 x87 (decide (((rd_T47 x85 x87).f1) < (wrap64 (x289001 + (rd x1 x8))))) x286000 x286001 x286002 x286003 x286004 x286005 x289000 x289001) else (none)) else (none)) else (maskref4_SitesFault.j4 k x1 x2 x8 x26 x27 x28 x85 x86 x87 false x286000 x286001 x286002 x286003 x286004 x286005 x289000 x289001)) else (none)) else (maskref4_SitesFault.j4 k x1 x2 x8 x26 x27 x28 x85 x86 x87 false x286000 x286001 x286002 x286003 x286004 x286005 x289000 x289001)) else (none)) else (none)) else (maskref4_SitesFault.l0 k x1 x2 x26 x27 (wrap64 (x28 + 1)) x286000 x286001 x286002 x286003 x286004 x286005)
def maskref4_SitesFault.j4 : Nat → List Int → List (S47) → Int → List (S47) → Int → Int → List (S47) → Int → Int → Bool → Int → Int → Int → List (S98) → List (S100) → List (S96) → Int → Int → Option (Int)
 | 0, _, _, _, _, _, _, _, _, _, _, _, _, _, _, _, _, _, _ => none
 | k + 1, x1, x2, x8, x26, x27, x28, x85, x86, x87, x120, x286000, x286001, x286002, x286003, x286004, x286005, x289000, x289001 => if x120 = true then (some 15) else (maskref4_SitesFault.l2 k x1 x2 x8 x26 x27 x28 x85 x86 (wrap64 (x87 + 1)) x286000 x286001 x286002 x286003 x286004 x286005 x289000 x289001)
end
def maskref4_SitesFault.f (k : Nat) (a0_0 : Int) (a0_1 : Int) (a0_2 : Int) (l0_3 : List (S98)) (l0_4 : List (S100)) (l0_5 : List (S96)) (l1 : List Int) (l2 : List (S47)) : Option (Int) := (maskref4_FloorFault.f k a0_0 a0_1 a0_2 l0_3 l0_4 l0_5).bind fun t286 => (if t286 = 0 then (if (l1.length : Int) > 364 then (some 3) else (if (l2.length : Int) = (l1.length : Int) then (maskref4_SitesFault.l0 k l1 l2 l2 (l2.length : Int) 0 a0_0 a0_1 a0_2 l0_3 l0_4 l0_5) else (some 4))) else (some t286))
theorem maskref4_SitesFault.mono_l : ∀ k, (∀ y0 y1 y2 y3 y4 y5 y6 y7 y8 y9 y10, LeO (maskref4_SitesFault.l0 k y0 y1 y2 y3 y4 y5 y6 y7 y8 y9 y10) (maskref4_SitesFault.l0 (k + 1) y0 y1 y2 y3 y4 y5 y6 y7 y8 y9 y10)) ∧ (∀ y0 y1 y2 y3 y4 y5 y6 y7 y8 y9 y10 y11 y12 y13 y14, LeO (maskref4_SitesFault.j1 k y0 y1 y2 y3 y4 y5 y6 y7 y8 y9 y10 y11 y12 y13 y14) (maskref4_SitesFault.j1 (k + 1) y0 y1 y2 y3 y4 y5 y6 y7 y8 y9 y10 y11 y12 y13 y14)) ∧ (∀ y0 y1 y2 y3 y4 y5 y6 y7 y8 y9 y10 y11 y12 y13 y14, LeO (maskref4_SitesFault.l1 k y0 y1 y2 y3 y4 y5 y6 y7 y8 y9 y10 y11 y12 y13 y14) (maskref4_SitesFault.l1 (k + 1) y0 y1 y2 y3 y4 y5 y6 y7 y8 y9 y10 y11 y12 y13 y14)) ∧ (∀ y0 y1 y2 y3 y4 y5 y6 y7 y8 y9 y10 y11 y12 y13 y14 y15 y16, LeO (maskref4_SitesFault.l2 k y0 y1 y2 y3 y4 y5 y6 y7 y8 y9 y10 y11 y12 y13 y14 y15 y16) (maskref4_SitesFault.l2 (k + 1) y0 y1 y2 y3 y4 y5 y6 y7 y8 y9 y10 y11 y12 y13 y14 y15 y16)) ∧ (∀ y0 y1 y2 y3 y4 y5 y6 y7 y8 y9 y10 y11 y12 y13 y14 y15 y16 y17, LeO (maskref4_SitesFault.j4 k y0 y1 y2 y3 y4 y5 y6 y7 y8 y9 y10 y11 y12 y13 y14 y15 y16 y17) (maskref4_SitesFault.j4 (k + 1) y0 y1 y2 y3 y4 y5 y6 y7 y8 y9 y10 y11 y12 y13 y14 y15 y16 y17))
 | 0 => ⟨fun _ _ _ _ _ _ _ _ _ _ _ r h => by simp [maskref4_SitesFault.l0] at h, fun _ _ _ _ _ _ _ _ _ _ _ _ _ _ _ r h => by simp [maskref4_SitesFault.j1] at h, fun _ _ _ _ _ _ _ _ _ _ _ _ _ _ _ r h => by simp [maskref4_SitesFault.l1] at h, fun _ _ _ _ _ _ _ _ _ _ _ _ _ _ _ _ _ r h => by simp [maskref4_SitesFault.l2] at h, fun _ _ _ _ _ _ _ _ _ _ _ _ _ _ _ _ _ _ r h => by simp [maskref4_SitesFault.j4] at h⟩
 | k + 1 => by
  obtain ⟨ih0, ih1, ih2, ih3, ih4⟩ := maskref4_SitesFault.mono_l k
  refine ⟨?_, ?_, ?_, ?_, ?_⟩
  · intro y0 y1 y2 y3 y4 y5 y6 y7 y8 y9 y10
    unfold maskref4_SitesFault.l0
    repeat' first
    | (with_reducible exact ih1 _ _ _ _ _ _ _ _ _ _ _ _ _ _ _)
    | (with_reducible exact LeO.refl _)
    | (with_reducible exact LeO.none _)
    | (with_reducible refine LeO.ite ?_ ?_)
    | (with_reducible refine LeO.bind ?_ (fun _ => ?_))
  · intro y0 y1 y2 y3 y4 y5 y6 y7 y8 y9 y10 y11 y12 y13 y14
    unfold maskref4_SitesFault.j1
    repeat' first
    | (with_reducible exact ih2 _ _ _ _ _ _ _ _ _ _ _ _ _ _ _)
    | (with_reducible exact LeO.refl _)
    | (with_reducible exact LeO.none _)
    | (with_reducible refine LeO.ite ?_ ?_)
    | (with_reducible refine LeO.bind ?_ (fun _ => ?_))
  · intro y0 y1 y2 y3 y4 y5 y6 y7 y8 y9 y10 y11 y12 y13 y14
    unfold maskref4_SitesFault.l1
    repeat' first
    | (with_reducible exact ih2 _ _ _ _ _ _ _ _ _ _ _ _ _ _ _)
    | (with_reducible exact ih3 _ _ _ _ _ _ _ _ _ _ _ _ _ _ _ _ _)
    | (with_reducible exact maskref4_blocked.mono _ _ _ _ _ _ _ _ _)
    | (with_reducible exact LeO.refl _)
    | (with_reducible exact LeO.none _)
    | (with_reducible refine LeO.ite ?_ ?_)
    | (with_reducible refine LeO.bind ?_ (fun _ => ?_))
  · intro y0 y1 y2 y3 y4 y5 y6 y7 y8 y9 y10 y11 y12 y13 y14 y15 y16
    unfold maskref4_SitesFault.l2
    repeat' first
    | (with_reducible exact ih0 _ _ _ _ _ _ _ _ _ _ _)
    | (with_reducible exact ih4 _ _ _ _ _ _ _ _ _ _ _ _ _ _ _ _ _ _)
    | (with_reducible exact LeO.refl _)
    | (with_reducible exact LeO.none _)
    | (with_reducible refine LeO.ite ?_ ?_)
    | (with_reducible refine LeO.bind ?_ (fun _ => ?_))
  · intro y0 y1 y2 y3 y4 y5 y6 y7 y8 y9 y10 y11 y12 y13 y14 y15 y16 y17
    unfold maskref4_SitesFault.j4
    repeat' first
    | (with_reducible exact ih3 _ _ _ _ _ _ _ _ _ _ _ _ _ _ _ _ _)
    | (with_reducible exact LeO.refl _)
    | (with_reducible exact LeO.none _)
    | (with_reducible refine LeO.ite ?_ ?_)
    | (with_reducible refine LeO.bind ?_ (fun _ => ?_))
theorem maskref4_SitesFault.mono : ∀ a0 a1 a2 a3 a4 a5 a6 a7 k, LeO (maskref4_SitesFault.f k a0 a1 a2 a3 a4 a5 a6 a7) (maskref4_SitesFault.f (k + 1) a0 a1 a2 a3 a4 a5 a6 a7) := by
 intro a0 a1 a2 a3 a4 a5 a6 a7 k
 obtain ⟨ih0, ih1, ih2, ih3, ih4⟩ := maskref4_SitesFault.mono_l k
 unfold maskref4_SitesFault.f
 repeat' first
  | (with_reducible exact ih0 _ _ _ _ _ _ _ _ _ _ _)
  | (with_reducible exact maskref4_FloorFault.mono _ _ _ _ _ _ _)
  | (with_reducible exact LeO.refl _)
  | (with_reducible exact LeO.none _)
  | (with_reducible refine LeO.ite ?_ ?_)
  | (with_reducible refine LeO.bind ?_ (fun _ => ?_))
def maskref4_SitesFault.T11 : Bool × List (List Nat × List Nat) := (true, [([], []), ([], []), ([0, 1], [0, 1]), ([2], [2]), ([3], [3]), ([4], [4]), ([5, 4], [5]), ([6], [6]), ([7, 6], [6, 7]), ([6], [6]), ([9, 6], [6, 9]), ([10, 6], [6, 10]), ([8, 11, 6, 6], [6, 8, 11]), ([12, 6], [6, 12]), ([6, 13], [6, 13]), ([14, 12], [14]), ([15], [15]), ([16, 15], [15, 16]), ([17, 15], [15, 17]), ([15, 18], [15, 18]), ([19, 15], [19]), ([20], [20]), ([21, 20], [20, 21]), ([20], [20]), ([23, 20], [20, 23]), ([20], [20]), ([20], [20]), ([25, 26, 20], [20, 25, 26]), ([27, 20], [20, 27]), ([24, 28, 20], [20, 24, 28]), ([22, 29, 20], [20, 22, 29]), ([20, 30], [20, 30])])
def maskref4_SitesFault.B11 : List Nat := [0, 0, 3, 7, 15, 31, 63, 127, 255, 127, 639, 1663, 4095, 8191, 16383, 32767, 65535, 131071, 262143, 524287, 1048575, 2097151, 4194303, 2097151, 10485759, 2097151, 2097151, 102760447, 236978175, 530579455, 1073741823, 2147483647]
theorem maskref4_SitesFault.tab11 : rtab .any (opsOf Try.f37 11) = maskref4_SitesFault.T11 := by kernel_rfl
theorem maskref4_SitesFault.bits11 : waitsOk maskref4_SitesFault.T11.2 maskref4_SitesFault.B11 = true := by kernel_rfl
def maskref4_SitesFault.T14 : Bool × List (List Nat × List Nat) := (true, [([], []), ([], []), ([1], [1]), ([], []), ([], []), ([3, 4], [3, 4]), ([5], [5]), ([2, 6], [2, 6]), ([0, 7], [0, 7])])
def maskref4_SitesFault.B14 : List Nat := [0, 0, 2, 0, 0, 24, 56, 126, 255]
theorem maskref4_SitesFault.tab14 : rtab .any (opsOf Try.f37 14) = maskref4_SitesFault.T14 := by kernel_rfl
theorem maskref4_SitesFault.bits14 : waitsOk maskref4_SitesFault.T14.2 maskref4_SitesFault.B14 = true := by kernel_rfl
def maskref4_SitesFault.T21 : Bool × List (List Nat × List Nat) := (true, [([], []), ([0], [0]), ([], []), ([2], [2]), ([1, 3], [1, 3]), ([4], [4]), ([5], [5]), ([6, 5], [5, 6]), ([5], [5]), ([8, 5], [5, 8]), ([5], [5]), ([5], [5]), ([10, 11, 5], [5, 10, 11]), ([12, 5], [5, 12]), ([9, 13, 5], [5, 9, 13]), ([7, 14, 5], [5, 7, 14]), ([5, 15], [5, 15]), ([16, 5], [16]), ([17], [17]), ([18, 17], [17, 18]), ([17], [17]), ([20, 17], [17, 20]), ([17], [17]), ([17], [17]), ([22, 23, 17], [17, 22, 23]), ([24, 17], [17, 24]), ([21, 25, 17], [17, 21, 25]), ([19, 26, 17], [17, 19, 26]), ([17, 27], [17, 27])])
def maskref4_SitesFault.B21 : List Nat := [0, 1, 0, 4, 15, 31, 63, 127, 63, 319, 63, 63, 3135, 7231, 16191, 32767, 65535, 131071, 262143, 524287, 262143, 1310719, 262143, 262143, 12845055, 29622271, 66322431, 134217727, 268435455]
theorem maskref4_SitesFault.tab21 : rtab .any (opsOf Try.f37 21) = maskref4_SitesFault.T21 := by kernel_rfl
theorem maskref4_SitesFault.bits21 : waitsOk maskref4_SitesFault.T21.2 maskref4_SitesFault.B21 = true := by kernel_rfl
set_option maxHeartbeats 8000000 in
set_option maxRecDepth 100000 in
theorem maskref4_SitesFault.calls (k : Nat) (a0_0 : Int) (a0_1 : Int) (a0_2 : Int) (A0_3 : Option Addr) (c0_3 : Nat) (l0_3 : List (S98)) (A0_4 : Option Addr) (c0_4 : Nat) (l0_4 : List (S100)) (A0_5 : Option Addr) (c0_5 : Nat) (l0_5 : List (S96)) (A1 : Option Addr) (c1 : Nat) (l1 : List Int) (A2 : Option Addr) (c2 : Nat) (l2 : List (S47)) (r : Int) (w : World) (hr0_3 : Kd.C k98 w A0_3 l0_3.length l0_3) (hc0_3 : l0_3.length ≤ c0_3) (hr0_4 : Kd.C k100 w A0_4 l0_4.length l0_4) (hc0_4 : l0_4.length ≤ c0_4) (hr0_5 : Kd.C k96 w A0_5 l0_5.length l0_5) (hc0_5 : l0_5.length ≤ c0_5) (hr1 : Kd.C (Kd.int .i64) w A1 l1.length l1) (hc1 : l1.length ≤ c1) (hr2 : Kd.C k47 w A2 l2.length l2) (hc2 : l2.length ≤ c2) (h : maskref4_SitesFault.f k a0_0 a0_1 a0_2 l0_3 l0_4 l0_5 l1 l2 = some r) :
 Calls Try.prog 37 #[.agg #[.int .i64 a0_0, .int .i64 a0_1, .int .i64 a0_2, .slice A0_3 l0_3.length c0_3, .slice A0_4 l0_4.length c0_4, .slice A0_5 l0_5.length c0_5], .slice A1 l1.length c1, .slice A2 l2.length c2] w fun e w' => e = .returned (.int .i64 r) ∧ Below w.heap.size w w' := by
 have HR0_3 := Aside0.mk hr0_3
 have HC0_3 := Aside0.mk hc0_3
 clear hr0_3 hc0_3
 have HR0_4 := Aside0.mk hr0_4
 have HC0_4 := Aside0.mk hc0_4
 clear hr0_4 hc0_4
 have HR0_5 := Aside0.mk hr0_5
 have HC0_5 := Aside0.mk hc0_5
 clear hr0_5 hc0_5
 have HR1 := Aside0.mk hr1
 clear hr1 hc1
 have HR2 := Aside0.mk hr2
 have HC2 := Aside0.mk hc2
 clear hr2 hc2
 have HB := Aside0.mk (Below.refl w.heap.size w)
 have H : ((maskref4_FloorFault.f k a0_0 a0_1 a0_2 l0_3 l0_4 l0_5).bind fun t286 => (if t286 = 0 then (if (l1.length : Int) > 364 then (some 3) else (if (l2.length : Int) = (l1.length : Int) then (maskref4_SitesFault.l0 k l1 l2 l2 (l2.length : Int) 0 a0_0 a0_1 a0_2 l0_3 l0_4 l0_5) else (some 4))) else (some t286))) = some r := h
 clear h
 replace H := Option.bind_eq_some_iff.mp H
 obtain ⟨t286, A40, H⟩ := H
 replace H : (if t286 = 0 then (if (l1.length : Int) > 364 then (some 3) else (if (l2.length : Int) = (l1.length : Int) then (maskref4_SitesFault.l0 k l1 l2 l2 (l2.length : Int) 0 a0_0 a0_1 a0_2 l0_3 l0_4 l0_5) else (some 4))) else (some t286)) = some r := H
 have A4 := Aside0.mk A40
 clear A40
 by_cases c5 : t286 = 0
 rotate_left
 · rw [if_neg c5] at H
   have c5b1 : (t286 != 0) = true := bne_iff_ne.mpr c5
   obtain rfl := Option.some.inj H
   go_enter Try.func37, Try.ntmps37
   go_wp2_with (first | ((with_reducible refine gate_dst (N := 3) rfl ?_); refine box_event ?hg (N := 3) ?hd (cs := #[.int .i64 a0_0, .int .i64 a0_1, .int .i64 a0_2, .slice A0_3 l0_3.length c0_3, .slice A0_4 l0_4.length c0_4, .slice A0_5 l0_5.length c0_5]) (t := 57) ?hr ?_; (case hd => rfl); (case hg => rfl); (case hr => first | (go_simp; done) | (go_simp; rfl)); intro gb285 hg w80 hbox hb; have n0_ := Aside0.mk (below_step (by repeat (first | (with_reducible first | exact HB.out | apply below_alloc | apply pw_below_drewN | apply below_drew1) | exact HB.out)) hb); have n1_ := Aside0.mk (hbox); have n2_ := Aside0.mk ((by rw [hg]; exact (below_size (by repeat (first | (with_reducible first | exact HB.out | apply below_alloc | apply pw_below_drewN | apply below_drew1) | exact HB.out))) : w.heap.size ≤ gb285)); have n3_ := Aside0.mk ((by rw [hg]; exact (below_size (by repeat (first | (with_reducible first | exact HB.out | apply below_alloc | apply pw_below_drewN | apply below_drew1) | exact HB.out))) : w.heap.size ≤ gb285)); clear HB; have HB := n0_; have BK285 := n1_; clear n0_ n1_ n2_ n3_; clear hb hbox hg; have hcz81_0 : w80.cell? ⟨gb285, 0, none⟩ = some (.int .i64 a0_0) := (blk_cell BK285.out 0).trans rfl; have hcz81_1 : w80.cell? ⟨gb285, 1, none⟩ = some (.int .i64 a0_1) := (blk_cell BK285.out 1).trans rfl; have hcz81_2 : w80.cell? ⟨gb285, 2, none⟩ = some (.int .i64 a0_2) := (blk_cell BK285.out 2).trans rfl; have hcz81_3 : w80.cell? ⟨gb285, 3, none⟩ = some (.slice A0_3 l0_3.length c0_3) := (blk_cell BK285.out 3).trans rfl; have hcz81_4 : w80.cell? ⟨gb285, 4, none⟩ = some (.slice A0_4 l0_4.length c0_4) := (blk_cell BK285.out 4).trans rfl; have hcz81_5 : w80.cell? ⟨gb285, 5, none⟩ = some (.slice A0_5 l0_5.length c0_5) := (blk_cell BK285.out 5).trans rfl; have hfz81_5 := blk_frozen BK285.out 5) | ((with_reducible refine gate_callee (f := 23) rfl ?_); refine goesL_ (some 14) rfl rfl Try.func23 (by kernel_rfl) rfl #[.agg #[.int .i64 a0_0, .int .i64 a0_1, .int .i64 a0_2, .slice A0_3 l0_3.length c0_3, .slice A0_4 l0_4.length c0_4, .slice A0_5 l0_5.length c0_5]] rfl (by (try simp only [List.map_toArray, List.map_cons, List.map_nil]); first | done | rfl | (simp only [List.length_drop, List.length_take]; rfl)) ?_; (with_reducible refine (maskref4_FloorFault.calls k a0_0 a0_1 a0_2 _ _ l0_3 _ _ l0_4 _ _ l0_5 t286 _ ?side1 ?side2 ?side3 ?side4 ?side5 ?side6 A4.out).mono ?_); (case side1 => repeat (first | exact (Kd.C_below HR0_3.out HB.out) | (with_reducible refine Kd.C_alloc ?_ _) | (with_reducible refine Kd.C_drewN ?_ _) | (with_reducible refine Kd.C_drew ?_))); (case side2 => exact HC0_3.out); (case side3 => repeat (first | exact (Kd.C_below HR0_4.out HB.out) | (with_reducible refine Kd.C_alloc ?_ _) | (with_reducible refine Kd.C_drewN ?_ _) | (with_reducible refine Kd.C_drew ?_))); (case side4 => exact HC0_4.out); (case side5 => repeat (first | exact (Kd.C_below HR0_5.out HB.out) | (with_reducible refine Kd.C_alloc ?_ _) | (with_reducible refine Kd.C_drewN ?_ _) | (with_reducible refine Kd.C_drew ?_))); (case side6 => exact HC0_5.out); rintro e w82 ⟨rfl, hb⟩; refine ⟨_, rfl, ?_⟩; have n0_ := Aside0.mk (blk_below (g := gb285) (o := .cells #[.int .i64 a0_0, .int .i64 a0_1, .int .i64 a0_2, .slice A0_3 l0_3.length c0_3, .slice A0_4 l0_4.length c0_4, .slice A0_5 l0_5.length c0_5] 57 (0, 0)) (by (with_reducible repeat (first | refine blk_drewN ?_ _ | refine blk_drew ?_ | refine blk_alloc ?_ _)); exact BK285.out) hb); have n1_ := Aside0.mk (below_step (by repeat (first | (with_reducible first | exact HB.out | apply below_alloc | apply pw_below_drewN | apply below_drew1 | refine below_set ?_ GE285.out) | exact HB.out)) hb); clear BK285; clear HB; have HB := n1_; clear n0_ n1_; (try clear hb); (try clear hb2); (try clear hk); (try clear hi)))
   go_ret
   exact ⟨by first | rfl | (simp [errW_none, errW_some] <;> rfl) | (simp [*, errW_none, errW_some] <;> rfl), by repeat (first | (with_reducible first | exact HB.out | apply below_alloc | apply pw_below_drewN | apply below_drew1 | refine below_set ?_ GE285.out) | exact HB.out)⟩
 rw [if_pos c5] at H
 have c5b0 : (t286 == 0) = true := beq_iff_eq.mpr c5
 have c5b1 : (t286 != 0) = false := bne_eq_false_iff_eq.mpr c5
 clear c5
 by_cases c6 : (l1.length : Int) > 364
 · rw [if_pos c6] at H
   have c6b0 : decide (364 < (l1.length : Int)) = true := decide_eq_true c6
   clear c6
   obtain rfl := Option.some.inj H
   go_enter Try.func37, Try.ntmps37
   go_wp2_with (first | ((with_reducible refine gate_dst (N := 3) rfl ?_); refine box_event ?hg (N := 3) ?hd (cs := #[.int .i64 a0_0, .int .i64 a0_1, .int .i64 a0_2, .slice A0_3 l0_3.length c0_3, .slice A0_4 l0_4.length c0_4, .slice A0_5 l0_5.length c0_5]) (t := 57) ?hr ?_; (case hd => rfl); (case hg => rfl); (case hr => first | (go_simp; done) | (go_simp; rfl)); intro gb285 hg w7 hbox hb; have n0_ := Aside0.mk (below_step (by repeat (first | (with_reducible first | exact HB.out | apply below_alloc | apply pw_below_drewN | apply below_drew1) | exact HB.out)) hb); have n1_ := Aside0.mk (hbox); have n2_ := Aside0.mk ((by rw [hg]; exact (below_size (by repeat (first | (with_reducible first | exact HB.out | apply below_alloc | apply pw_below_drewN | apply below_drew1) | exact HB.out))) : w.heap.size ≤ gb285)); have n3_ := Aside0.mk ((by rw [hg]; exact (below_size (by repeat (first | (with_reducible first | exact HB.out | apply below_alloc | apply pw_below_drewN | apply below_drew1) | exact HB.out))) : w.heap.size ≤ gb285)); clear HB; have HB := n0_; have BK285 := n1_; clear n0_ n1_ n2_ n3_; clear hb hbox hg; have hcz8_0 : w7.cell? ⟨gb285, 0, none⟩ = some (.int .i64 a0_0) := (blk_cell BK285.out 0).trans rfl; have hcz8_1 : w7.cell? ⟨gb285, 1, none⟩ = some (.int .i64 a0_1) := (blk_cell BK285.out 1).trans rfl; have hcz8_2 : w7.cell? ⟨gb285, 2, none⟩ = some (.int .i64 a0_2) := (blk_cell BK285.out 2).trans rfl; have hcz8_3 : w7.cell? ⟨gb285, 3, none⟩ = some (.slice A0_3 l0_3.length c0_3) := (blk_cell BK285.out 3).trans rfl; have hcz8_4 : w7.cell? ⟨gb285, 4, none⟩ = some (.slice A0_4 l0_4.length c0_4) := (blk_cell BK285.out 4).trans rfl; have hcz8_5 : w7.cell? ⟨gb285, 5, none⟩ = some (.slice A0_5 l0_5.length c0_5) := (blk_cell BK285.out 5).trans rfl; have hfz8_5 := blk_frozen BK285.out 5) | ((with_reducible refine gate_callee (f := 23) rfl ?_); refine goesL_ (some 14) rfl rfl Try.func23 (by kernel_rfl) rfl #[.agg #[.int .i64 a0_0, .int .i64 a0_1, .int .i64 a0_2, .slice A0_3 l0_3.length c0_3, .slice A0_4 l0_4.length c0_4, .slice A0_5 l0_5.length c0_5]] rfl (by (try simp only [List.map_toArray, List.map_cons, List.map_nil]); first | done | rfl | (simp only [List.length_drop, List.length_take]; rfl)) ?_; (with_reducible refine (maskref4_FloorFault.calls k a0_0 a0_1 a0_2 _ _ l0_3 _ _ l0_4 _ _ l0_5 t286 _ ?side1 ?side2 ?side3 ?side4 ?side5 ?side6 A4.out).mono ?_); (case side1 => repeat (first | exact (Kd.C_below HR0_3.out HB.out) | (with_reducible refine Kd.C_alloc ?_ _) | (with_reducible refine Kd.C_drewN ?_ _) | (with_reducible refine Kd.C_drew ?_))); (case side2 => exact HC0_3.out); (case side3 => repeat (first | exact (Kd.C_below HR0_4.out HB.out) | (with_reducible refine Kd.C_alloc ?_ _) | (with_reducible refine Kd.C_drewN ?_ _) | (with_reducible refine Kd.C_drew ?_))); (case side4 => exact HC0_4.out); (case side5 => repeat (first | exact (Kd.C_below HR0_5.out HB.out) | (with_reducible refine Kd.C_alloc ?_ _) | (with_reducible refine Kd.C_drewN ?_ _) | (with_reducible refine Kd.C_drew ?_))); (case side6 => exact HC0_5.out); rintro e w9 ⟨rfl, hb⟩; refine ⟨_, rfl, ?_⟩; have n0_ := Aside0.mk (blk_below (g := gb285) (o := .cells #[.int .i64 a0_0, .int .i64 a0_1, .int .i64 a0_2, .slice A0_3 l0_3.length c0_3, .slice A0_4 l0_4.length c0_4, .slice A0_5 l0_5.length c0_5] 57 (0, 0)) (by (with_reducible repeat (first | refine blk_drewN ?_ _ | refine blk_drew ?_ | refine blk_alloc ?_ _)); exact BK285.out) hb); have n1_ := Aside0.mk (below_step (by repeat (first | (with_reducible first | exact HB.out | apply below_alloc | apply pw_below_drewN | apply below_drew1 | refine below_set ?_ GE285.out) | exact HB.out)) hb); clear BK285; clear HB; have HB := n1_; clear n0_ n1_; (try clear hb); (try clear hb2); (try clear hk); (try clear hi)))
   go_ret
   exact ⟨by first | rfl | (simp [errW_none, errW_some] <;> rfl) | (simp [*, errW_none, errW_some] <;> rfl), by repeat (first | (with_reducible first | exact HB.out | apply below_alloc | apply pw_below_drewN | apply below_drew1 | refine below_set ?_ GE285.out) | exact HB.out)⟩
 rw [if_neg c6] at H
 have c6b0 : decide (364 < (l1.length : Int)) = false := decide_eq_false c6
 have c6b1 : decide (364 < l1.length) = false := decide_eq_false (by omega)
 clear c6
 by_cases c10 : (l2.length : Int) = (l1.length : Int)
 rotate_left
 · rw [if_neg c10] at H
   have c10b1 : ((l2.length : Int) != (l1.length : Int)) = true := bne_iff_ne.mpr c10
   obtain rfl := Option.some.inj H
   go_enter Try.func37, Try.ntmps37
   go_wp2_with (first | ((with_reducible refine gate_dst (N := 3) rfl ?_); refine box_event ?hg (N := 3) ?hd (cs := #[.int .i64 a0_0, .int .i64 a0_1, .int .i64 a0_2, .slice A0_3 l0_3.length c0_3, .slice A0_4 l0_4.length c0_4, .slice A0_5 l0_5.length c0_5]) (t := 57) ?hr ?_; (case hd => rfl); (case hg => rfl); (case hr => first | (go_simp; done) | (go_simp; rfl)); intro gb285 hg w77 hbox hb; have n0_ := Aside0.mk (below_step (by repeat (first | (with_reducible first | exact HB.out | apply below_alloc | apply pw_below_drewN | apply below_drew1) | exact HB.out)) hb); have n1_ := Aside0.mk (hbox); have n2_ := Aside0.mk ((by rw [hg]; exact (below_size (by repeat (first | (with_reducible first | exact HB.out | apply below_alloc | apply pw_below_drewN | apply below_drew1) | exact HB.out))) : w.heap.size ≤ gb285)); have n3_ := Aside0.mk ((by rw [hg]; exact (below_size (by repeat (first | (with_reducible first | exact HB.out | apply below_alloc | apply pw_below_drewN | apply below_drew1) | exact HB.out))) : w.heap.size ≤ gb285)); clear HB; have HB := n0_; have BK285 := n1_; clear n0_ n1_ n2_ n3_; clear hb hbox hg; have hcz78_0 : w77.cell? ⟨gb285, 0, none⟩ = some (.int .i64 a0_0) := (blk_cell BK285.out 0).trans rfl; have hcz78_1 : w77.cell? ⟨gb285, 1, none⟩ = some (.int .i64 a0_1) := (blk_cell BK285.out 1).trans rfl; have hcz78_2 : w77.cell? ⟨gb285, 2, none⟩ = some (.int .i64 a0_2) := (blk_cell BK285.out 2).trans rfl; have hcz78_3 : w77.cell? ⟨gb285, 3, none⟩ = some (.slice A0_3 l0_3.length c0_3) := (blk_cell BK285.out 3).trans rfl; have hcz78_4 : w77.cell? ⟨gb285, 4, none⟩ = some (.slice A0_4 l0_4.length c0_4) := (blk_cell BK285.out 4).trans rfl; have hcz78_5 : w77.cell? ⟨gb285, 5, none⟩ = some (.slice A0_5 l0_5.length c0_5) := (blk_cell BK285.out 5).trans rfl; have hfz78_5 := blk_frozen BK285.out 5) | ((with_reducible refine gate_callee (f := 23) rfl ?_); refine goesL_ (some 14) rfl rfl Try.func23 (by kernel_rfl) rfl #[.agg #[.int .i64 a0_0, .int .i64 a0_1, .int .i64 a0_2, .slice A0_3 l0_3.length c0_3, .slice A0_4 l0_4.length c0_4, .slice A0_5 l0_5.length c0_5]] rfl (by (try simp only [List.map_toArray, List.map_cons, List.map_nil]); first | done | rfl | (simp only [List.length_drop, List.length_take]; rfl)) ?_; (with_reducible refine (maskref4_FloorFault.calls k a0_0 a0_1 a0_2 _ _ l0_3 _ _ l0_4 _ _ l0_5 t286 _ ?side1 ?side2 ?side3 ?side4 ?side5 ?side6 A4.out).mono ?_); (case side1 => repeat (first | exact (Kd.C_below HR0_3.out HB.out) | (with_reducible refine Kd.C_alloc ?_ _) | (with_reducible refine Kd.C_drewN ?_ _) | (with_reducible refine Kd.C_drew ?_))); (case side2 => exact HC0_3.out); (case side3 => repeat (first | exact (Kd.C_below HR0_4.out HB.out) | (with_reducible refine Kd.C_alloc ?_ _) | (with_reducible refine Kd.C_drewN ?_ _) | (with_reducible refine Kd.C_drew ?_))); (case side4 => exact HC0_4.out); (case side5 => repeat (first | exact (Kd.C_below HR0_5.out HB.out) | (with_reducible refine Kd.C_alloc ?_ _) | (with_reducible refine Kd.C_drewN ?_ _) | (with_reducible refine Kd.C_drew ?_))); (case side6 => exact HC0_5.out); rintro e w79 ⟨rfl, hb⟩; refine ⟨_, rfl, ?_⟩; have n0_ := Aside0.mk (blk_below (g := gb285) (o := .cells #[.int .i64 a0_0, .int .i64 a0_1, .int .i64 a0_2, .slice A0_3 l0_3.length c0_3, .slice A0_4 l0_4.length c0_4, .slice A0_5 l0_5.length c0_5] 57 (0, 0)) (by (with_reducible repeat (first | refine blk_drewN ?_ _ | refine blk_drew ?_ | refine blk_alloc ?_ _)); exact BK285.out) hb); have n1_ := Aside0.mk (below_step (by repeat (first | (with_reducible first | exact HB.out | apply below_alloc | apply pw_below_drewN | apply below_drew1 | refine below_set ?_ GE285.out) | exact HB.out)) hb); clear BK285; clear HB; have HB := n1_; clear n0_ n1_; (try clear hb); (try clear hb2); (try clear hk); (try clear hi)))
   go_ret
   exact ⟨by first | rfl | (simp [errW_none, errW_some] <;> rfl) | (simp [*, errW_none, errW_some] <;> rfl), by repeat (first | (with_reducible first | exact HB.out | apply below_alloc | apply pw_below_drewN | apply below_drew1 | refine below_set ?_ GE285.out) | exact HB.out)⟩
 rw [if_pos c10] at H
 have c10b0 : ((l2.length : Int) == (l1.length : Int)) = true := beq_iff_eq.mpr c10
 have c10b1 : ((l2.length : Int) != (l1.length : Int)) = false := bne_eq_false_iff_eq.mpr c10
 have c10b2 : (l2.length == l1.length) = true := by first | simpa using c10 | (simp at c10 ⊢; omega)
 clear c10
 have H' := Aside0.mk H
 clear H
 go_enter Try.func37, Try.ntmps37
 go_wp2_with (first | ((with_reducible refine gate_dst (N := 3) rfl ?_); refine box_event ?hg (N := 3) ?hd (cs := #[.int .i64 a0_0, .int .i64 a0_1, .int .i64 a0_2, .slice A0_3 l0_3.length c0_3, .slice A0_4 l0_4.length c0_4, .slice A0_5 l0_5.length c0_5]) (t := 57) ?hr ?_; (case hd => rfl); (case hg => rfl); (case hr => first | (go_simp; done) | (go_simp; rfl)); intro gb285 hg w11 hbox hb; have n0_ := Aside0.mk (below_step (by repeat (first | (with_reducible first | exact HB.out | apply below_alloc | apply pw_below_drewN | apply below_drew1) | exact HB.out)) hb); have n1_ := Aside0.mk (hbox); have n2_ := Aside0.mk ((by rw [hg]; exact (below_size (by repeat (first | (with_reducible first | exact HB.out | apply below_alloc | apply pw_below_drewN | apply below_drew1) | exact HB.out))) : w.heap.size ≤ gb285)); have n3_ := Aside0.mk ((by rw [hg]; exact (below_size (by repeat (first | (with_reducible first | exact HB.out | apply below_alloc | apply pw_below_drewN | apply below_drew1) | exact HB.out))) : w.heap.size ≤ gb285)); clear HB; have HB := n0_; have BK285 := n1_; have GE285 := n3_; clear n0_ n1_ n2_ n3_; clear hb hbox hg; have hcz12_0 : w11.cell? ⟨gb285, 0, none⟩ = some (.int .i64 a0_0) := (blk_cell BK285.out 0).trans rfl; have hcz12_1 : w11.cell? ⟨gb285, 1, none⟩ = some (.int .i64 a0_1) := (blk_cell BK285.out 1).trans rfl; have hcz12_2 : w11.cell? ⟨gb285, 2, none⟩ = some (.int .i64 a0_2) := (blk_cell BK285.out 2).trans rfl; have hcz12_3 : w11.cell? ⟨gb285, 3, none⟩ = some (.slice A0_3 l0_3.length c0_3) := (blk_cell BK285.out 3).trans rfl; have hcz12_4 : w11.cell? ⟨gb285, 4, none⟩ = some (.slice A0_4 l0_4.length c0_4) := (blk_cell BK285.out 4).trans rfl; have hcz12_5 : w11.cell? ⟨gb285, 5, none⟩ = some (.slice A0_5 l0_5.length c0_5) := (blk_cell BK285.out 5).trans rfl; have hfz12_0 := blk_frozen BK285.out 0; have hfz12_1 := blk_frozen BK285.out 1; have hfz12_2 := blk_frozen BK285.out 2; have hfz12_3 := blk_frozen BK285.out 3; have hfz12_4 := blk_frozen BK285.out 4; have hfz12_5 := blk_frozen BK285.out 5) | ((with_reducible refine gate_callee (f := 23) rfl ?_); refine goesL_ (some 14) rfl rfl Try.func23 (by kernel_rfl) rfl #[.agg #[.int .i64 a0_0, .int .i64 a0_1, .int .i64 a0_2, .slice A0_3 l0_3.length c0_3, .slice A0_4 l0_4.length c0_4, .slice A0_5 l0_5.length c0_5]] rfl (by (try simp only [List.map_toArray, List.map_cons, List.map_nil]); first | done | rfl | (simp only [List.length_drop, List.length_take]; rfl)) ?_; (with_reducible refine (maskref4_FloorFault.calls k a0_0 a0_1 a0_2 _ _ l0_3 _ _ l0_4 _ _ l0_5 t286 _ ?side1 ?side2 ?side3 ?side4 ?side5 ?side6 A4.out).mono ?_); (case side1 => repeat (first | exact (Kd.C_below HR0_3.out HB.out) | (with_reducible refine Kd.C_alloc ?_ _) | (with_reducible refine Kd.C_drewN ?_ _) | (with_reducible refine Kd.C_drew ?_))); (case side2 => exact HC0_3.out); (case side3 => repeat (first | exact (Kd.C_below HR0_4.out HB.out) | (with_reducible refine Kd.C_alloc ?_ _) | (with_reducible refine Kd.C_drewN ?_ _) | (with_reducible refine Kd.C_drew ?_))); (case side4 => exact HC0_4.out); (case side5 => repeat (first | exact (Kd.C_below HR0_5.out HB.out) | (with_reducible refine Kd.C_alloc ?_ _) | (with_reducible refine Kd.C_drewN ?_ _) | (with_reducible refine Kd.C_drew ?_))); (case side6 => exact HC0_5.out); rintro e w13 ⟨rfl, hb⟩; refine ⟨_, rfl, ?_⟩; have n0_ := Aside0.mk (blk_below (g := gb285) (o := .cells #[.int .i64 a0_0, .int .i64 a0_1, .int .i64 a0_2, .slice A0_3 l0_3.length c0_3, .slice A0_4 l0_4.length c0_4, .slice A0_5 l0_5.length c0_5] 57 (0, 0)) (by (with_reducible repeat (first | refine blk_drewN ?_ _ | refine blk_drew ?_ | refine blk_alloc ?_ _)); exact BK285.out) hb); have n1_ := Aside0.mk (below_step (by repeat (first | (with_reducible first | exact HB.out | apply below_alloc | apply pw_below_drewN | apply below_drew1 | refine below_set ?_ GE285.out) | exact HB.out)) hb); clear BK285; clear HB; have BK285 := n0_; have HB := n1_; clear n0_ n1_; (try clear hb); (try clear hb2); (try clear hk); (try clear hi)))
 go_loopg [28] k (fun kq v28 w' => ∃ (x28_1 : Int), v28 = .int .i64 x28_1 ∧ Aside0 (maskref4_SitesFault.l0 kq l1 l2 l2 (l2.length : Int) x28_1 a0_0 a0_1 a0_2 l0_3 l0_4 l0_5 = some r) ∧ Aside0 (kq ≤ k) ∧ Aside0 (w'.heap[gb285]? = some (.cells #[.int .i64 a0_0, .int .i64 a0_1, .int .i64 a0_2, (.slice A0_3 l0_3.length c0_3), (.slice A0_4 l0_4.length c0_4), (.slice A0_5 l0_5.length c0_5)] 57 (0, 0))) ∧ Aside0 (Below w.heap.size w w'))
 case atStart => exact ⟨(0), (by first | rfl | (simp; done) | (simp [*]; done)), H', ⟨Nat.le_refl _⟩, ⟨by (with_reducible repeat (first | refine blk_drewN ?_ _ | refine blk_drew ?_ | refine blk_alloc ?_ _)); exact BK285.out⟩, ⟨by repeat (first | (with_reducible first | exact HB.out | apply below_alloc | apply pw_below_drewN | apply below_drew1 | refine below_set ?_ GE285.out) | exact HB.out)⟩⟩
 clear H'
 clear c5b0 c5b1 c6b0 c6b1 c10b0 c10b1 c10b2 hcz12_0 hcz12_1 hcz12_2 hcz12_3 hcz12_4 hcz12_5 hfz12_0 hfz12_1 hfz12_2 hfz12_3 hfz12_4 hfz12_5
 obtain ⟨x28_1, rfl, HA, HK1, BK285, HB⟩ := hrel
 cases gk with
 | zero => exact absurd HA.out (by simp [maskref4_SitesFault.l0])
 | succ k1 =>
  have H := HA.out
  clear HA
  simp only [maskref4_SitesFault.l0] at H
  by_cases c14 : x28_1 < (l2.length : Int)
  rotate_left
  · rw [if_neg c14] at H
    have c14b0 : decide (x28_1 < (l2.length : Int)) = false := decide_eq_false c14
    clear c14
    obtain rfl := Option.some.inj H
    go_wp2
    go_ret
    exact ⟨by first | rfl | (simp [errW_none, errW_some] <;> rfl) | (simp [*, errW_none, errW_some] <;> rfl), by repeat (first | (with_reducible first | exact HB.out | apply below_alloc | apply pw_below_drewN | apply below_drew1 | refine below_set ?_ GE285.out) | exact HB.out)⟩
  rw [if_pos c14] at H
  have c14b0 : decide (x28_1 < (l2.length : Int)) = true := decide_eq_true c14
  clear c14
  by_cases c15 : 0 ≤ x28_1
  rotate_left
  · rw [if_neg c15] at H
    exact absurd H (by simp)
  rw [if_pos c15] at H
  have c15b0 : decide (0 ≤ x28_1) = true := decide_eq_true c15
  clear c15
  by_cases c16 : x28_1 < (l2.length : Int)
  rotate_left
  · rw [if_neg c16] at H
    exact absurd H (by simp)
  rw [if_pos c16] at H
  have c16b0 : decide (x28_1 < (l2.length : Int)) = true := decide_eq_true c16
  clear c16
  have HC17 := Aside0.mk H
  clear H
  have p287 : 0 ≤ (x28_1 : Int) := of_decide_eq_true (by first | (with_reducible assumption) | assumption)
  have q287 : x28_1 < (l2.length : Int) := of_decide_eq_true (by first | (with_reducible assumption) | assumption)
  obtain ⟨ad287, e287, hx287_0, hx287_1⟩ := at_T47 HR2.out x28_1 p287 q287
  cases e287
  replace hx287_0 := (HB.out.cell (World.block_lt_of_cell? w _ hx287_0)).trans hx287_0
  replace hx287_1 := (HB.out.cell (World.block_lt_of_cell? w _ hx287_1)).trans hx287_1
  replace p287 := eq_true p287
  replace q287 := eq_true q287
  go_upto_region 11 with ((with_reducible refine gate_dst (N := 9) rfl ?_); refine box_event ?hg (N := 9) ?hd (cs := #[.int .i64 0, .int .i64 0]) (t := 47) ?hr ?_; (case hd => rfl); (case hg => rfl); (case hr => first | (go_simp; done) | (go_simp; rfl)); intro gb288 hg w18 hbox hb; have n0_ := Aside0.mk (blk_below (g := gb285) (o := .cells #[.int .i64 a0_0, .int .i64 a0_1, .int .i64 a0_2, .slice A0_3 l0_3.length c0_3, .slice A0_4 l0_4.length c0_4, .slice A0_5 l0_5.length c0_5] 57 (0, 0)) (by (with_reducible repeat (first | refine blk_drewN ?_ _ | refine blk_drew ?_ | refine blk_alloc ?_ _)); exact BK285.out) hb); have n1_ := Aside0.mk (below_step (by repeat (first | (with_reducible first | exact HB.out | apply below_alloc | apply pw_below_drewN | apply below_drew1 | refine below_set ?_ GE285.out) | exact HB.out)) hb); have n2_ := Aside0.mk (hbox); have n3_ := Aside0.mk ((by rw [hg]; exact (below_size (by repeat (first | (with_reducible first | exact HB.out | apply below_alloc | apply pw_below_drewN | apply below_drew1 | refine below_set ?_ GE285.out) | exact HB.out))) : w.heap.size ≤ gb288)); have n4_ := Aside0.mk ((by rw [hg]; exact (below_size (by repeat (first | (with_reducible first | exact HB.out | apply below_alloc | apply pw_below_drewN | apply below_drew1 | refine below_set ?_ GE285.out) | exact HB.out))) : w.heap.size ≤ gb288)); have n5_ := Aside0.mk ((by rw [hg]; exact Nat.ne_of_lt (blk_lt (g := gb285) (o := .cells #[.int .i64 a0_0, .int .i64 a0_1, .int .i64 a0_2, .slice A0_3 l0_3.length c0_3, .slice A0_4 l0_4.length c0_4, .slice A0_5 l0_5.length c0_5] 57 (0, 0)) (by (with_reducible repeat (first | refine blk_drewN ?_ _ | refine blk_drew ?_ | refine blk_alloc ?_ _)); exact BK285.out)) : gb285 ≠ gb288)); have n6_ := Aside0.mk ((by rw [hg]; exact Nat.ne_of_gt (blk_lt (g := gb285) (o := .cells #[.int .i64 a0_0, .int .i64 a0_1, .int .i64 a0_2, .slice A0_3 l0_3.length c0_3, .slice A0_4 l0_4.length c0_4, .slice A0_5 l0_5.length c0_5] 57 (0, 0)) (by (with_reducible repeat (first | refine blk_drewN ?_ _ | refine blk_drew ?_ | refine blk_alloc ?_ _)); exact BK285.out)) : gb288 ≠ gb285)); clear BK285; clear HB; have BK285 := n0_; have HB := n1_; have BK288 := n2_; have GE288 := n4_; have NB285_288 := n5_; have NB288_285 := n6_; clear n0_ n1_ n2_ n3_ n4_ n5_ n6_; clear hb hbox hg; have hcz20_0 : w18.cell? ⟨gb288, 0, none⟩ = some (.int .i64 0) := (blk_cell BK288.out 0).trans rfl; have hcz20_1 : w18.cell? ⟨gb288, 1, none⟩ = some (.int .i64 0) := (blk_cell BK288.out 1).trans rfl; have hfz20_0 := blk_frozen BK288.out 0; have hfz20_1 := blk_frozen BK288.out 1)
  (try simp only [Act.put, z1, z2, z3])
  go_cut [64] (fun v64 wc => ∃ (kq : Nat) (x64_16 : Bool), v64 = .bool x64_16 ∧ Aside0 (maskref4_SitesFault.j1 kq l1 l2 x28_1 l2 (l2.length : Int) x28_1 x64_16 a0_0 a0_1 a0_2 l0_3 l0_4 l0_5 ((rd_T47 l2 x28_1).f0) ((rd_T47 l2 x28_1).f1) = some r) ∧ Aside0 (kq ≤ k1) ∧ Aside0 (wc.heap[gb285]? = some (.cells #[.int .i64 a0_0, .int .i64 a0_1, .int .i64 a0_2, (.slice A0_3 l0_3.length c0_3), (.slice A0_4 l0_4.length c0_4), (.slice A0_5 l0_5.length c0_5)] 57 (0, 0))) ∧ Aside0 (wc.heap[gb288]? = some (.cells #[.int .i64 ((rd_T47 l2 x28_1).f0), .int .i64 ((rd_T47 l2 x28_1).f1)] 47 (0, 0))) ∧ Aside0 (Below w.heap.size w wc))
  case first =>
   have H := HC17.out
   clear HC17
   by_cases c21 : x28_1 < (l1.length : Int)
   rotate_left
   · rw [if_neg c21] at H
     exact absurd H (by simp)
   rw [if_pos c21] at H
   have c21b0 : decide (x28_1 < (l1.length : Int)) = true := decide_eq_true c21
   clear c21
   (first | rw [c21b0] | (simp only [i64_w, i32_w]; rw [c21b0]) | skip)
   replace H := Option.bind_eq_some_iff.mp H
   obtain ⟨t290, A220, H⟩ := H
   replace H : (if t290 = true then ((maskref4_In.f ((rd_T47 l2 x28_1).f0) 0 (wrap64 (a0_0 - 1))).bind fun t291 => (if t291 = true then (if ((rd_T47 l2 x28_1).f1) < 0 then (maskref4_SitesFault.j1 k1 l1 l2 x28_1 l2 (l2.length : Int) x28_1 true a0_0 a0_1 a0_2 l0_3 l0_4 l0_5 ((rd_T47 l2 x28_1).f0) ((rd_T47 l2 x28_1).f1)) else (maskref4_SitesFault.j1 k1 l1 l2 x28_1 l2 (l2.length : Int) x28_1 (decide (((rd_T47 l2 x28_1).f1) > (wrap64 (a0_1 - (rd l1 x28_1))))) a0_0 a0_1 a0_2 l0_3 l0_4 l0_5 ((rd_T47 l2 x28_1).f0) ((rd_T47 l2 x28_1).f1))) else (maskref4_SitesFault.j1 k1 l1 l2 x28_1 l2 (l2.length : Int) x28_1 true a0_0 a0_1 a0_2 l0_3 l0_4 l0_5 ((rd_T47 l2 x28_1).f0) ((rd_T47 l2 x28_1).f1)))) else (maskref4_SitesFault.j1 k1 l1 l2 x28_1 l2 (l2.length : Int) x28_1 true a0_0 a0_1 a0_2 l0_3 l0_4 l0_5 ((rd_T47 l2 x28_1).f0) ((rd_T47 l2 x28_1).f1))) = some r := H
   have A22 := Aside0.mk A220
   clear A220
   by_cases c23 : t290 = true
   rotate_left
   · replace c23 := Bool.eq_false_iff.mpr c23
     subst c23
     have H1 : (maskref4_SitesFault.j1 k1 l1 l2 x28_1 l2 (l2.length : Int) x28_1 true a0_0 a0_1 a0_2 l0_3 l0_4 l0_5 ((rd_T47 l2 x28_1).f0) ((rd_T47 l2 x28_1).f1)) = some r := by rw [if_neg (show ¬ (false = true) by decide)] at H; exact H
     clear H
     have H := H1
     clear H1
     have H' := Aside0.mk H
     clear H
     try go_wp2
     have n0_ : Aside0 (((w18.setCell ⟨gb288, 0, none⟩ (.int .i64 ((rd_T47 l2 x28_1).f0))).setCell ⟨gb288, 1, none⟩ (.int .i64 ((rd_T47 l2 x28_1).f1))).heap[gb285]? = some (.cells #[.int .i64 a0_0, .int .i64 a0_1, .int .i64 a0_2, .slice A0_3 l0_3.length c0_3, .slice A0_4 l0_4.length c0_4, .slice A0_5 l0_5.length c0_5] 57 (0, 0))) := ⟨by (with_reducible repeat (first | refine blk_drewN ?_ _ | refine blk_drew ?_ | refine blk_alloc ?_ _)); refine blk_far ?_ NB285_288.out _; (with_reducible repeat (first | refine blk_drewN ?_ _ | refine blk_drew ?_ | refine blk_alloc ?_ _)); refine blk_far ?_ NB285_288.out _; (with_reducible repeat (first | refine blk_drewN ?_ _ | refine blk_drew ?_ | refine blk_alloc ?_ _)); exact BK285.out⟩
     have n1_ : Aside0 (((w18.setCell ⟨gb288, 0, none⟩ (.int .i64 ((rd_T47 l2 x28_1).f0))).setCell ⟨gb288, 1, none⟩ (.int .i64 ((rd_T47 l2 x28_1).f1))).heap[gb288]? = some (.cells #[.int .i64 ((rd_T47 l2 x28_1).f0), .int .i64 ((rd_T47 l2 x28_1).f1)] 47 (0, 0))) := ⟨by (with_reducible repeat (first | refine blk_drewN ?_ _ | refine blk_drew ?_ | refine blk_alloc ?_ _)); refine blk_put (cs := #[.int .i64 ((rd_T47 l2 x28_1).f0), .int .i64 0]) ?_ 1 _ rfl; (with_reducible repeat (first | refine blk_drewN ?_ _ | refine blk_drew ?_ | refine blk_alloc ?_ _)); refine blk_put (cs := #[.int .i64 0, .int .i64 0]) ?_ 0 _ rfl; (with_reducible repeat (first | refine blk_drewN ?_ _ | refine blk_drew ?_ | refine blk_alloc ?_ _)); exact BK288.out⟩
     have n2_ : Aside0 (Below w.heap.size w ((w18.setCell ⟨gb288, 0, none⟩ (.int .i64 ((rd_T47 l2 x28_1).f0))).setCell ⟨gb288, 1, none⟩ (.int .i64 ((rd_T47 l2 x28_1).f1)))) := ⟨by repeat (first | (with_reducible first | exact HB.out | apply below_alloc | apply pw_below_drewN | apply below_drew1 | refine below_set ?_ GE285.out | refine below_set ?_ GE288.out) | exact HB.out)⟩
     (try clear BK285)
     (try clear BK288)
     (try clear HB)
     generalize ((w18.setCell ⟨gb288, 0, none⟩ (.int .i64 ((rd_T47 l2 x28_1).f0))).setCell ⟨gb288, 1, none⟩ (.int .i64 ((rd_T47 l2 x28_1).f1))) = w33 at n0_ n1_ n2_ ⊢
     have BK285 := n0_
     have BK288 := n1_
     have HB := n2_
     clear n0_ n1_ n2_
     have n0_ := Aside0.mk (blk_drew BK285.out)
     have n1_ := Aside0.mk (blk_drew BK288.out)
     have n2_ := Aside0.mk (below_drew1 HB.out)
     clear BK285
     clear BK288
     clear HB
     have BK285 := n0_
     have BK288 := n1_
     have HB := n2_
     clear n0_ n1_ n2_
     have p289 : 0 ≤ (x28_1 : Int) := of_decide_eq_true (by first | (with_reducible assumption) | assumption)
     have q289 : x28_1 < (l1.length : Int) := of_decide_eq_true (by first | (with_reducible assumption) | assumption)
     obtain ⟨ad289, e289, hx289_0⟩ := Kd.at_int HR1.out x28_1 p289 q289
     have hw289_0 := hx289_0
     cases e289
     replace hx289_0 := (HB.out.cell (World.block_lt_of_cell? w _ hx289_0)).trans hx289_0
     replace p289 := eq_true p289
     replace q289 := eq_true q289
     refine start_ (n := 32) (S := fun w' => w'.cell? (ad289.add (x28_1).toNat) = some (.int .i64 (rd l1 x28_1))) (ds := []) (zb 0 32) (by kernel_rfl) rfl rfl (((HB.out.cell (World.block_lt_of_cell? w _ hw289_0)).trans hw289_0)) (fun hHeld => ?_); refine with_tabW maskref4_SitesFault.tab11 maskref4_SitesFault.bits11 (fun HT_ HW_ => ?_)
     generalize w33.drew = w34 at BK285 BK288 HB hx289_0 hHeld ⊢
     refine pure_ (i := 0) (N := some 33) (v := ?_) (a' := ?_) (zb 1 31) rfl rfl (any_of HT_.out (by kernel_rfl)) (fun _ _ _ h => h) (Or.inl ⟨by rfl, ?_⟩) ?_ ?_
     rotate_left; focus (intro w'; go_simp; with_reducible rfl)
     rotate_left; focus (simp only [Act.put, z1, z2, z3, i64_w, i32_w]; rfl)
     refine pure_ (i := 1) (N := some 34) (v := ?_) (a' := ?_) (zb 2 30) rfl rfl (any_of HT_.out (by kernel_rfl)) (fun _ _ _ h => h) (Or.inl ⟨by rfl, ?_⟩) ?_ ?_
     rotate_left; focus (intro w'; go_simp; with_reducible rfl)
     rotate_left; focus (simp only [Act.put, z1, z2, z3, i64_w, i32_w]; rfl)
     refine pure_ (i := 2) (N := some 35) (v := ?_) (a' := ?_) (zb 3 29) rfl rfl (any_of HT_.out (by kernel_rfl)) (fun _ _ _ h => h) (Or.inl ⟨by rfl, ?_⟩) ?_ ?_
     rotate_left; focus (intro w'; go_simp; with_reducible rfl)
     rotate_left; focus (simp only [Act.put, z1, z2, z3, i64_w, i32_w]; rfl)
     refine take_ (i := 3) (N := some 36) (v := ?_) (a' := ?_) (zb 4 28) rfl rfl (take_ofW HT_.out HW_.out (by kernel_rfl)) (fun _ _ _ h => h) (Or.inl ⟨by rfl, ?_⟩) hHeld ?_ ?_
     rotate_left; focus (intro w' s0; go_simp; with_reducible rfl)
     rotate_left; focus (simp only [Act.put, z1, z2, z3, i64_w, i32_w]; rfl)
     refine one_ (i := 4) (N := some 37) (zb 5 27) rfl rfl (one_of HT_.out (by kernel_rfl)) (by decide) (fun K hK => ?_)
     refine goes_ Try.func16 (by kernel_rfl) rfl #[.int .i64 (rd l1 x28_1), .int .i64 1, .int .i64 40] (by rfl) rfl rfl (by (try simp only [List.map_toArray, List.map_cons, List.map_nil]); first | done | rfl | (simp only [List.length_drop, List.length_take]; rfl)) ?_
     with_reducible refine (maskref4_In.calls (rd l1 x28_1) 1 40 false _ A22.out).mono ?_
     rintro e w' ⟨rfl, ⟨nd, rfl⟩⟩
     refine ⟨_, rfl, ?_⟩
     refine hK.out _ _ (((HB.out.cell (World.block_lt_of_cell? w _ hw289_0)).trans hw289_0)) (fun hHeld => ?_)
     clear hK K
     refine norm_ (a' := ?_) ?_ ?_
     rotate_left; focus (show Act.put _ (some 37) _ = _; simp only [Act.put, z1, z2, z3, i64_w, i32_w]; rfl)
     refine pure_ (i := 5) (N := some 38) (v := ?_) (a' := ?_) (zb 6 26) rfl rfl (any_of HT_.out (by kernel_rfl)) (fun _ _ _ h => h) (Or.inl ⟨by rfl, ?_⟩) ?_ ?_
     rotate_left; focus (intro w'; go_simp; with_reducible rfl)
     rotate_left; focus (simp only [Act.put, z1, z2, z3, i64_w, i32_w]; rfl)
     refine pure_ (i := 6) (N := some 39) (v := ?_) (a' := ?_) (zb 7 25) rfl rfl (any_of HT_.out (by kernel_rfl)) (fun _ _ _ h => h) (Or.inl ⟨by rfl, ?_⟩) ?_ ?_
     rotate_left; focus (intro w'; go_simp; with_reducible rfl)
     rotate_left; focus (simp only [Act.put, z1, z2, z3, i64_w, i32_w]; rfl)
     refine pure_ (i := 7) (N := some 40) (v := undef) (a' := ?_) (zb 8 24) rfl rfl (any_of HT_.out (by kernel_rfl)) (fun _ _ _ h => h) (Or.inr ⟨by rfl, rfl⟩) ?_ ?_
     rotate_left; focus (simp only [Act.put, z1, z2, z3, i64_w, i32_w]; rfl)
     refine pure_ (i := 8) (N := some 41) (v := undef) (a' := ?_) (zb 9 23) rfl rfl (any_of HT_.out (by kernel_rfl)) (fun _ _ _ h => h) (Or.inr ⟨by rfl, rfl⟩) ?_ ?_
     rotate_left; focus (simp only [Act.put, z1, z2, z3, i64_w, i32_w]; rfl)
     refine pure_ (i := 9) (N := some 42) (v := undef) (a' := ?_) (zb 10 22) rfl rfl (any_of HT_.out (by kernel_rfl)) (fun _ _ _ h => h) (Or.inr ⟨by rfl, rfl⟩) ?_ ?_
     rotate_left; focus (simp only [Act.put, z1, z2, z3, i64_w, i32_w]; rfl)
     refine pure_ (i := 10) (N := some 43) (v := undef) (a' := ?_) (zb 11 21) rfl rfl (any_of HT_.out (by kernel_rfl)) (fun _ _ _ h => h) (Or.inr ⟨by rfl, rfl⟩) ?_ ?_
     rotate_left; focus (simp only [Act.put, z1, z2, z3, i64_w, i32_w]; rfl)
     refine pure_ (i := 11) (N := some 44) (v := undef) (a' := ?_) (zb 12 20) rfl rfl (any_of HT_.out (by kernel_rfl)) (fun _ _ _ h => h) (Or.inr ⟨by rfl, rfl⟩) ?_ ?_
     rotate_left; focus (simp only [Act.put, z1, z2, z3, i64_w, i32_w]; rfl)
     refine pure_ (i := 12) (N := some 45) (v := undef) (a' := ?_) (zb 13 19) rfl rfl (any_of HT_.out (by kernel_rfl)) (fun _ _ _ h => h) (Or.inr ⟨by rfl, rfl⟩) ?_ ?_
     rotate_left; focus (simp only [Act.put, z1, z2, z3, i64_w, i32_w]; rfl)
     refine pure_ (i := 13) (N := some 46) (v := undef) (a' := ?_) (zb 14 18) rfl rfl (any_of HT_.out (by kernel_rfl)) (fun _ _ _ h => h) (Or.inr ⟨by rfl, rfl⟩) ?_ ?_
     rotate_left; focus (simp only [Act.put, z1, z2, z3, i64_w, i32_w]; rfl)
     refine pure_ (i := 14) (N := some 47) (v := ?_) (a' := ?_) (zb 15 17) rfl rfl (any_of HT_.out (by kernel_rfl)) (fun _ _ _ h => h) (Or.inl ⟨by rfl, ?_⟩) ?_ ?_
     rotate_left; focus (intro w'; go_simp; with_reducible rfl)
     rotate_left; focus (simp only [Act.put, z1, z2, z3, i64_w, i32_w]; rfl)
     refine pure_ (i := 15) (N := some 48) (v := ?_) (a' := ?_) (zb 16 16) rfl rfl (any_of HT_.out (by kernel_rfl)) (fun _ _ _ h => h) (Or.inl ⟨by rfl, ?_⟩) ?_ ?_
     rotate_left; focus (intro w'; go_simp; with_reducible rfl)
     rotate_left; focus (simp only [Act.put, z1, z2, z3, i64_w, i32_w]; rfl)
     refine pure_ (i := 16) (N := some 49) (v := undef) (a' := ?_) (zb 17 15) rfl rfl (any_of HT_.out (by kernel_rfl)) (fun _ _ _ h => h) (Or.inr ⟨by rfl, rfl⟩) ?_ ?_
     rotate_left; focus (simp only [Act.put, z1, z2, z3, i64_w, i32_w]; rfl)
     refine pure_ (i := 17) (N := some 50) (v := undef) (a' := ?_) (zb 18 14) rfl rfl (any_of HT_.out (by kernel_rfl)) (fun _ _ _ h => h) (Or.inr ⟨by rfl, rfl⟩) ?_ ?_
     rotate_left; focus (simp only [Act.put, z1, z2, z3, i64_w, i32_w]; rfl)
     refine pure_ (i := 18) (N := some 51) (v := undef) (a' := ?_) (zb 19 13) rfl rfl (any_of HT_.out (by kernel_rfl)) (fun _ _ _ h => h) (Or.inr ⟨by rfl, rfl⟩) ?_ ?_
     rotate_left; focus (simp only [Act.put, z1, z2, z3, i64_w, i32_w]; rfl)
     refine pure_ (i := 19) (N := some 52) (v := ?_) (a' := ?_) (zb 20 12) rfl rfl (any_of HT_.out (by kernel_rfl)) (fun _ _ _ h => h) (Or.inl ⟨by rfl, ?_⟩) ?_ ?_
     rotate_left; focus (intro w'; go_simp; with_reducible rfl)
     rotate_left; focus (simp only [Act.put, z1, z2, z3, i64_w, i32_w]; rfl)
     refine pure_ (i := 20) (N := some 53) (v := ?_) (a' := ?_) (zb 21 11) rfl rfl (any_of HT_.out (by kernel_rfl)) (fun _ _ _ h => h) (Or.inl ⟨by rfl, ?_⟩) ?_ ?_
     rotate_left; focus (intro w'; go_simp; with_reducible rfl)
     rotate_left; focus (simp only [Act.put, z1, z2, z3, i64_w, i32_w]; rfl)
     refine pure_ (i := 21) (N := some 54) (v := undef) (a' := ?_) (zb 22 10) rfl rfl (any_of HT_.out (by kernel_rfl)) (fun _ _ _ h => h) (Or.inr ⟨by rfl, rfl⟩) ?_ ?_
     rotate_left; focus (simp only [Act.put, z1, z2, z3, i64_w, i32_w]; rfl)
     refine pure_ (i := 22) (N := some 55) (v := undef) (a' := ?_) (zb 23 9) rfl rfl (any_of HT_.out (by kernel_rfl)) (fun _ _ _ h => h) (Or.inr ⟨by rfl, rfl⟩) ?_ ?_
     rotate_left; focus (simp only [Act.put, z1, z2, z3, i64_w, i32_w]; rfl)
     refine pure_ (i := 23) (N := some 56) (v := undef) (a' := ?_) (zb 24 8) rfl rfl (any_of HT_.out (by kernel_rfl)) (fun _ _ _ h => h) (Or.inr ⟨by rfl, rfl⟩) ?_ ?_
     rotate_left; focus (simp only [Act.put, z1, z2, z3, i64_w, i32_w]; rfl)
     refine pure_ (i := 24) (N := some 57) (v := undef) (a' := ?_) (zb 25 7) rfl rfl (any_of HT_.out (by kernel_rfl)) (fun _ _ _ h => h) (Or.inr ⟨by rfl, rfl⟩) ?_ ?_
     rotate_left; focus (simp only [Act.put, z1, z2, z3, i64_w, i32_w]; rfl)
     refine pure_ (i := 25) (N := some 58) (v := undef) (a' := ?_) (zb 26 6) rfl rfl (any_of HT_.out (by kernel_rfl)) (fun _ _ _ h => h) (Or.inr ⟨by rfl, rfl⟩) ?_ ?_
     rotate_left; focus (simp only [Act.put, z1, z2, z3, i64_w, i32_w]; rfl)
     refine pure_ (i := 26) (N := some 59) (v := undef) (a' := ?_) (zb 27 5) rfl rfl (any_of HT_.out (by kernel_rfl)) (fun _ _ _ h => h) (Or.inr ⟨by rfl, rfl⟩) ?_ ?_
     rotate_left; focus (simp only [Act.put, z1, z2, z3, i64_w, i32_w]; rfl)
     refine pure_ (i := 27) (N := some 60) (v := undef) (a' := ?_) (zb 28 4) rfl rfl (any_of HT_.out (by kernel_rfl)) (fun _ _ _ h => h) (Or.inr ⟨by rfl, rfl⟩) ?_ ?_
     rotate_left; focus (simp only [Act.put, z1, z2, z3, i64_w, i32_w]; rfl)
     refine pure_ (i := 28) (N := some 61) (v := undef) (a' := ?_) (zb 29 3) rfl rfl (any_of HT_.out (by kernel_rfl)) (fun _ _ _ h => h) (Or.inr ⟨by rfl, rfl⟩) ?_ ?_
     rotate_left; focus (simp only [Act.put, z1, z2, z3, i64_w, i32_w]; rfl)
     refine pure_ (i := 29) (N := some 62) (v := undef) (a' := ?_) (zb 30 2) rfl rfl (any_of HT_.out (by kernel_rfl)) (fun _ _ _ h => h) (Or.inr ⟨by rfl, rfl⟩) ?_ ?_
     rotate_left; focus (simp only [Act.put, z1, z2, z3, i64_w, i32_w]; rfl)
     refine pure_ (i := 30) (N := some 63) (v := undef) (a' := ?_) (zb 31 1) rfl rfl (any_of HT_.out (by kernel_rfl)) (fun _ _ _ h => h) (Or.inr ⟨by rfl, rfl⟩) ?_ ?_
     rotate_left; focus (simp only [Act.put, z1, z2, z3, i64_w, i32_w]; rfl)
     refine pure_ (i := 31) (N := some 64) (v := ?_) (a' := ?_) (zb 32 0) rfl rfl (any_of HT_.out (by kernel_rfl)) (fun _ _ _ h => h) (Or.inl ⟨by rfl, ?_⟩) ?_ ?_
     rotate_left; focus (intro w'; go_simp; with_reducible rfl)
     rotate_left; focus (simp only [Act.put, z1, z2, z3, i64_w, i32_w]; rfl)
     refine done_ (done_of HT_.out (by kernel_rfl)) ?_
     try go_wp2
     go_meet
     case rel => exact ⟨_, (true), (by first | rfl | (simp; done) | (simp [*]; done)), H', ⟨by have := HK1.out; first | omega | exact Nat.le_refl _⟩, ⟨by (with_reducible repeat (first | refine blk_drewN ?_ _ | refine blk_drew ?_ | refine blk_alloc ?_ _)); exact BK285.out⟩, ⟨by (with_reducible repeat (first | refine blk_drewN ?_ _ | refine blk_drew ?_ | refine blk_alloc ?_ _)); exact BK288.out⟩, ⟨by repeat (first | (with_reducible first | exact HB.out | apply below_alloc | apply pw_below_drewN | apply below_drew1 | refine below_set ?_ GE285.out | refine below_set ?_ GE288.out) | exact HB.out)⟩⟩
   subst c23
   have H1 : ((maskref4_In.f ((rd_T47 l2 x28_1).f0) 0 (wrap64 (a0_0 - 1))).bind fun t291 => (if t291 = true then (if ((rd_T47 l2 x28_1).f1) < 0 then (maskref4_SitesFault.j1 k1 l1 l2 x28_1 l2 (l2.length : Int) x28_1 true a0_0 a0_1 a0_2 l0_3 l0_4 l0_5 ((rd_T47 l2 x28_1).f0) ((rd_T47 l2 x28_1).f1)) else (maskref4_SitesFault.j1 k1 l1 l2 x28_1 l2 (l2.length : Int) x28_1 (decide (((rd_T47 l2 x28_1).f1) > (wrap64 (a0_1 - (rd l1 x28_1))))) a0_0 a0_1 a0_2 l0_3 l0_4 l0_5 ((rd_T47 l2 x28_1).f0) ((rd_T47 l2 x28_1).f1))) else (maskref4_SitesFault.j1 k1 l1 l2 x28_1 l2 (l2.length : Int) x28_1 true a0_0 a0_1 a0_2 l0_3 l0_4 l0_5 ((rd_T47 l2 x28_1).f0) ((rd_T47 l2 x28_1).f1)))) = some r := by rw [if_pos rfl] at H; exact H
   clear H
   have H := H1
   clear H1
   replace H := Option.bind_eq_some_iff.mp H
   obtain ⟨t291, A240, H⟩ := H
   replace H : (if t291 = true then (if ((rd_T47 l2 x28_1).f1) < 0 then (maskref4_SitesFault.j1 k1 l1 l2 x28_1 l2 (l2.length : Int) x28_1 true a0_0 a0_1 a0_2 l0_3 l0_4 l0_5 ((rd_T47 l2 x28_1).f0) ((rd_T47 l2 x28_1).f1)) else (maskref4_SitesFault.j1 k1 l1 l2 x28_1 l2 (l2.length : Int) x28_1 (decide (((rd_T47 l2 x28_1).f1) > (wrap64 (a0_1 - (rd l1 x28_1))))) a0_0 a0_1 a0_2 l0_3 l0_4 l0_5 ((rd_T47 l2 x28_1).f0) ((rd_T47 l2 x28_1).f1))) else (maskref4_SitesFault.j1 k1 l1 l2 x28_1 l2 (l2.length : Int) x28_1 true a0_0 a0_1 a0_2 l0_3 l0_4 l0_5 ((rd_T47 l2 x28_1).f0) ((rd_T47 l2 x28_1).f1))) = some r := H
   have A24 := Aside0.mk A240
   clear A240
   by_cases c25 : t291 = true
   rotate_left
   · replace c25 := Bool.eq_false_iff.mpr c25
     subst c25
     have H1 : (maskref4_SitesFault.j1 k1 l1 l2 x28_1 l2 (l2.length : Int) x28_1 true a0_0 a0_1 a0_2 l0_3 l0_4 l0_5 ((rd_T47 l2 x28_1).f0) ((rd_T47 l2 x28_1).f1)) = some r := by rw [if_neg (show ¬ (false = true) by decide)] at H; exact H
     clear H
     have H := H1
     clear H1
     have H' := Aside0.mk H
     clear H
     try go_wp2
     have n0_ : Aside0 (((w18.setCell ⟨gb288, 0, none⟩ (.int .i64 ((rd_T47 l2 x28_1).f0))).setCell ⟨gb288, 1, none⟩ (.int .i64 ((rd_T47 l2 x28_1).f1))).heap[gb285]? = some (.cells #[.int .i64 a0_0, .int .i64 a0_1, .int .i64 a0_2, .slice A0_3 l0_3.length c0_3, .slice A0_4 l0_4.length c0_4, .slice A0_5 l0_5.length c0_5] 57 (0, 0))) := ⟨by (with_reducible repeat (first | refine blk_drewN ?_ _ | refine blk_drew ?_ | refine blk_alloc ?_ _)); refine blk_far ?_ NB285_288.out _; (with_reducible repeat (first | refine blk_drewN ?_ _ | refine blk_drew ?_ | refine blk_alloc ?_ _)); refine blk_far ?_ NB285_288.out _; (with_reducible repeat (first | refine blk_drewN ?_ _ | refine blk_drew ?_ | refine blk_alloc ?_ _)); exact BK285.out⟩
     have n1_ : Aside0 (((w18.setCell ⟨gb288, 0, none⟩ (.int .i64 ((rd_T47 l2 x28_1).f0))).setCell ⟨gb288, 1, none⟩ (.int .i64 ((rd_T47 l2 x28_1).f1))).heap[gb288]? = some (.cells #[.int .i64 ((rd_T47 l2 x28_1).f0), .int .i64 ((rd_T47 l2 x28_1).f1)] 47 (0, 0))) := ⟨by (with_reducible repeat (first | refine blk_drewN ?_ _ | refine blk_drew ?_ | refine blk_alloc ?_ _)); refine blk_put (cs := #[.int .i64 ((rd_T47 l2 x28_1).f0), .int .i64 0]) ?_ 1 _ rfl; (with_reducible repeat (first | refine blk_drewN ?_ _ | refine blk_drew ?_ | refine blk_alloc ?_ _)); refine blk_put (cs := #[.int .i64 0, .int .i64 0]) ?_ 0 _ rfl; (with_reducible repeat (first | refine blk_drewN ?_ _ | refine blk_drew ?_ | refine blk_alloc ?_ _)); exact BK288.out⟩
     have n2_ : Aside0 (Below w.heap.size w ((w18.setCell ⟨gb288, 0, none⟩ (.int .i64 ((rd_T47 l2 x28_1).f0))).setCell ⟨gb288, 1, none⟩ (.int .i64 ((rd_T47 l2 x28_1).f1)))) := ⟨by repeat (first | (with_reducible first | exact HB.out | apply below_alloc | apply pw_below_drewN | apply below_drew1 | refine below_set ?_ GE285.out | refine below_set ?_ GE288.out) | exact HB.out)⟩
     (try clear BK285)
     (try clear BK288)
     (try clear HB)
     generalize ((w18.setCell ⟨gb288, 0, none⟩ (.int .i64 ((rd_T47 l2 x28_1).f0))).setCell ⟨gb288, 1, none⟩ (.int .i64 ((rd_T47 l2 x28_1).f1))) = w31 at n0_ n1_ n2_ ⊢
     have BK285 := n0_
     have BK288 := n1_
     have HB := n2_
     clear n0_ n1_ n2_
     have n0_ := Aside0.mk (blk_drew BK285.out)
     have n1_ := Aside0.mk (blk_drew BK288.out)
     have n2_ := Aside0.mk (below_drew1 HB.out)
     clear BK285
     clear BK288
     clear HB
     have BK285 := n0_
     have BK288 := n1_
     have HB := n2_
     clear n0_ n1_ n2_
     have p289 : 0 ≤ (x28_1 : Int) := of_decide_eq_true (by first | (with_reducible assumption) | assumption)
     have q289 : x28_1 < (l1.length : Int) := of_decide_eq_true (by first | (with_reducible assumption) | assumption)
     obtain ⟨ad289, e289, hx289_0⟩ := Kd.at_int HR1.out x28_1 p289 q289
     have hw289_0 := hx289_0
     cases e289
     replace hx289_0 := (HB.out.cell (World.block_lt_of_cell? w _ hx289_0)).trans hx289_0
     replace p289 := eq_true p289
     replace q289 := eq_true q289
     refine start_ (n := 32) (S := fun w' => w'.cell? ⟨gb288, 0, none⟩ = some (.int .i64 ((rd_T47 l2 x28_1).f0)) ∧ w'.cell? ⟨gb288, 1, none⟩ = some (.int .i64 ((rd_T47 l2 x28_1).f1)) ∧ w'.cell? ⟨gb285, 0, none⟩ = some (.int .i64 a0_0) ∧ w'.cell? ⟨gb285, 1, none⟩ = some (.int .i64 a0_1) ∧ w'.cell? ⟨gb285, 2, none⟩ = some (.int .i64 a0_2) ∧ w'.cell? ⟨gb285, 3, none⟩ = some (.slice A0_3 l0_3.length c0_3) ∧ w'.cell? ⟨gb285, 4, none⟩ = some (.slice A0_4 l0_4.length c0_4) ∧ w'.cell? ⟨gb285, 5, none⟩ = some (.slice A0_5 l0_5.length c0_5) ∧ w'.cell? (ad289.add (x28_1).toNat) = some (.int .i64 (rd l1 x28_1))) (ds := []) (zb 0 32) (by kernel_rfl) rfl rfl ⟨(blk_cell BK288.out 0).trans rfl, (blk_cell BK288.out 1).trans rfl, (blk_cell BK285.out 0).trans rfl, (blk_cell BK285.out 1).trans rfl, (blk_cell BK285.out 2).trans rfl, (blk_cell BK285.out 3).trans rfl, (blk_cell BK285.out 4).trans rfl, (blk_cell BK285.out 5).trans rfl, ((HB.out.cell (World.block_lt_of_cell? w _ hw289_0)).trans hw289_0)⟩ (fun hHeld => ?_); refine with_tabW maskref4_SitesFault.tab11 maskref4_SitesFault.bits11 (fun HT_ HW_ => ?_)
     generalize w31.drew = w32 at BK285 BK288 HB hx289_0 hHeld ⊢
     refine pure_ (i := 0) (N := some 33) (v := ?_) (a' := ?_) (zb 1 31) rfl rfl (any_of HT_.out (by kernel_rfl)) (fun _ _ _ h => h) (Or.inl ⟨by rfl, ?_⟩) ?_ ?_
     rotate_left; focus (intro w'; go_simp; with_reducible rfl)
     rotate_left; focus (simp only [Act.put, z1, z2, z3, i64_w, i32_w]; rfl)
     refine pure_ (i := 1) (N := some 34) (v := ?_) (a' := ?_) (zb 2 30) rfl rfl (any_of HT_.out (by kernel_rfl)) (fun _ _ _ h => h) (Or.inl ⟨by rfl, ?_⟩) ?_ ?_
     rotate_left; focus (intro w'; go_simp; with_reducible rfl)
     rotate_left; focus (simp only [Act.put, z1, z2, z3, i64_w, i32_w]; rfl)
     refine pure_ (i := 2) (N := some 35) (v := ?_) (a' := ?_) (zb 3 29) rfl rfl (any_of HT_.out (by kernel_rfl)) (fun _ _ _ h => h) (Or.inl ⟨by rfl, ?_⟩) ?_ ?_
     rotate_left; focus (intro w'; go_simp; with_reducible rfl)
     rotate_left; focus (simp only [Act.put, z1, z2, z3, i64_w, i32_w]; rfl)
     refine take_ (i := 3) (N := some 36) (v := ?_) (a' := ?_) (zb 4 28) rfl rfl (take_ofW HT_.out HW_.out (by kernel_rfl)) (fun _ _ _ h => h) (Or.inl ⟨by rfl, ?_⟩) hHeld ?_ ?_
     rotate_left
     · rintro w' ⟨s0, s1, s2, s3, s4, s5, s6, s7, s8⟩
       go_simp
       with_reducible rfl
     rotate_left; focus (simp only [Act.put, z1, z2, z3, i64_w, i32_w]; rfl)
     refine one_ (i := 4) (N := some 37) (zb 5 27) rfl rfl (one_of HT_.out (by kernel_rfl)) (by decide) (fun K hK => ?_)
     refine goes_ Try.func16 (by kernel_rfl) rfl #[.int .i64 (rd l1 x28_1), .int .i64 1, .int .i64 40] (by rfl) rfl rfl (by (try simp only [List.map_toArray, List.map_cons, List.map_nil]); first | done | rfl | (simp only [List.length_drop, List.length_take]; rfl)) ?_
     with_reducible refine (maskref4_In.calls (rd l1 x28_1) 1 40 true _ A22.out).mono ?_
     rintro e w' ⟨rfl, ⟨nd, rfl⟩⟩
     refine ⟨_, rfl, ?_⟩
     refine hK.out _ _ ⟨(blk_cell BK288.out 0).trans rfl, (blk_cell BK288.out 1).trans rfl, (blk_cell BK285.out 0).trans rfl, (blk_cell BK285.out 1).trans rfl, (blk_cell BK285.out 2).trans rfl, (blk_cell BK285.out 3).trans rfl, (blk_cell BK285.out 4).trans rfl, (blk_cell BK285.out 5).trans rfl, ((HB.out.cell (World.block_lt_of_cell? w _ hw289_0)).trans hw289_0)⟩ (fun hHeld => ?_)
     clear hK K
     refine norm_ (a' := ?_) ?_ ?_
     rotate_left; focus (show Act.put _ (some 37) _ = _; simp only [Act.put, z1, z2, z3, i64_w, i32_w]; rfl)
     refine pure_ (i := 5) (N := some 38) (v := ?_) (a' := ?_) (zb 6 26) rfl rfl (any_of HT_.out (by kernel_rfl)) (fun _ _ _ h => h) (Or.inl ⟨by rfl, ?_⟩) ?_ ?_
     rotate_left; focus (intro w'; go_simp; with_reducible rfl)
     rotate_left; focus (simp only [Act.put, z1, z2, z3, i64_w, i32_w]; rfl)
     refine pure_ (i := 6) (N := some 39) (v := ?_) (a' := ?_) (zb 7 25) rfl rfl (any_of HT_.out (by kernel_rfl)) (fun _ _ _ h => h) (Or.inl ⟨by rfl, ?_⟩) ?_ ?_
     rotate_left; focus (intro w'; go_simp; with_reducible rfl)
     rotate_left; focus (simp only [Act.put, z1, z2, z3, i64_w, i32_w]; rfl)
     refine pure_ (i := 7) (N := some 40) (v := ?_) (a' := ?_) (zb 8 24) rfl rfl (any_of HT_.out (by kernel_rfl)) (fun _ _ _ h => h) (Or.inl ⟨by rfl, ?_⟩) ?_ ?_
     rotate_left; focus (intro w'; go_simp; with_reducible rfl)
     rotate_left; focus (simp only [Act.put, z1, z2, z3, i64_w, i32_w]; rfl)
     refine pure_ (i := 9) (N := some 42) (v := ?_) (a' := ?_) #[true,true,true,true,true,true,true,true,false,true,false,false,false,false,false,false,false,false,false,false,false,false,false,false,false,false,false,false,false,false,false,false] rfl rfl (any_of HT_.out (by kernel_rfl)) (fun _ _ _ h => h) (Or.inl ⟨by rfl, ?_⟩) ?_ ?_
     rotate_left; focus (intro w'; go_simp; with_reducible rfl)
     rotate_left; focus (simp only [Act.put, z1, z2, z3, i64_w, i32_w]; rfl)
     refine take_ (i := 8) (N := some 41) (v := ?_) (a' := ?_) (zb 10 22) rfl rfl (take_ofW HT_.out HW_.out (by kernel_rfl)) (fun _ _ _ h => h) (Or.inl ⟨by rfl, ?_⟩) hHeld ?_ ?_
     rotate_left
     · rintro w' ⟨s0, s1, s2, s3, s4, s5, s6, s7, s8⟩
       go_simp
       with_reducible rfl
     rotate_left; focus (simp only [Act.put, z1, z2, z3, i64_w, i32_w]; rfl)
     refine take_ (i := 10) (N := some 43) (v := ?_) (a' := ?_) (zb 11 21) rfl rfl (take_ofW HT_.out HW_.out (by kernel_rfl)) (fun _ _ _ h => h) (Or.inl ⟨by rfl, ?_⟩) hHeld ?_ ?_
     rotate_left
     · rintro w' ⟨s0, s1, s2, s3, s4, s5, s6, s7, s8⟩
       go_simp
       with_reducible rfl
     rotate_left; focus (simp only [Act.put, z1, z2, z3, i64_w, i32_w]; rfl)
     refine pure_ (i := 11) (N := some 44) (v := ?_) (a' := ?_) (zb 12 20) rfl rfl (any_of HT_.out (by kernel_rfl)) (fun _ _ _ h => h) (Or.inl ⟨by rfl, ?_⟩) ?_ ?_
     rotate_left; focus (intro w'; go_simp; with_reducible rfl)
     rotate_left; focus (simp only [Act.put, z1, z2, z3, i64_w, i32_w]; rfl)
     refine one_ (i := 12) (N := some 45) (zb 13 19) rfl rfl (one_of HT_.out (by kernel_rfl)) (by decide) (fun K hK => ?_)
     refine goes_ Try.func16 (by kernel_rfl) rfl #[.int .i64 ((rd_T47 l2 x28_1).f0), .int .i64 0, .int .i64 (wrap64 (a0_0 - 1))] (by rfl) rfl rfl (by (try simp only [List.map_toArray, List.map_cons, List.map_nil]); first | done | rfl | (simp only [List.length_drop, List.length_take]; rfl)) ?_
     with_reducible refine (maskref4_In.calls ((rd_T47 l2 x28_1).f0) 0 (wrap64 (a0_0 - 1)) false _ A24.out).mono ?_
     rintro e w' ⟨rfl, ⟨nd, rfl⟩⟩
     refine ⟨_, rfl, ?_⟩
     refine hK.out _ _ ⟨(blk_cell BK288.out 0).trans rfl, (blk_cell BK288.out 1).trans rfl, (blk_cell BK285.out 0).trans rfl, (blk_cell BK285.out 1).trans rfl, (blk_cell BK285.out 2).trans rfl, (blk_cell BK285.out 3).trans rfl, (blk_cell BK285.out 4).trans rfl, (blk_cell BK285.out 5).trans rfl, ((HB.out.cell (World.block_lt_of_cell? w _ hw289_0)).trans hw289_0)⟩ (fun hHeld => ?_)
     clear hK K
     refine norm_ (a' := ?_) ?_ ?_
     rotate_left; focus (show Act.put _ (some 45) _ = _; simp only [Act.put, z1, z2, z3, i64_w, i32_w]; rfl)
     refine pure_ (i := 13) (N := some 46) (v := ?_) (a' := ?_) (zb 14 18) rfl rfl (any_of HT_.out (by kernel_rfl)) (fun _ _ _ h => h) (Or.inl ⟨by rfl, ?_⟩) ?_ ?_
     rotate_left; focus (intro w'; go_simp; with_reducible rfl)
     rotate_left; focus (simp only [Act.put, z1, z2, z3, i64_w, i32_w]; rfl)
     refine pure_ (i := 14) (N := some 47) (v := ?_) (a' := ?_) (zb 15 17) rfl rfl (any_of HT_.out (by kernel_rfl)) (fun _ _ _ h => h) (Or.inl ⟨by rfl, ?_⟩) ?_ ?_
     rotate_left; focus (intro w'; go_simp; with_reducible rfl)
     rotate_left; focus (simp only [Act.put, z1, z2, z3, i64_w, i32_w]; rfl)
     refine pure_ (i := 15) (N := some 48) (v := ?_) (a' := ?_) (zb 16 16) rfl rfl (any_of HT_.out (by kernel_rfl)) (fun _ _ _ h => h) (Or.inl ⟨by rfl, ?_⟩) ?_ ?_
     rotate_left; focus (intro w'; go_simp; with_reducible rfl)
     rotate_left; focus (simp only [Act.put, z1, z2, z3, i64_w, i32_w]; rfl)
     refine pure_ (i := 16) (N := some 49) (v := undef) (a' := ?_) (zb 17 15) rfl rfl (any_of HT_.out (by kernel_rfl)) (fun _ _ _ h => h) (Or.inr ⟨by rfl, rfl⟩) ?_ ?_
     rotate_left; focus (simp only [Act.put, z1, z2, z3, i64_w, i32_w]; rfl)
     refine pure_ (i := 17) (N := some 50) (v := undef) (a' := ?_) (zb 18 14) rfl rfl (any_of HT_.out (by kernel_rfl)) (fun _ _ _ h => h) (Or.inr ⟨by rfl, rfl⟩) ?_ ?_
     rotate_left; focus (simp only [Act.put, z1, z2, z3, i64_w, i32_w]; rfl)
     refine pure_ (i := 18) (N := some 51) (v := undef) (a' := ?_) (zb 19 13) rfl rfl (any_of HT_.out (by kernel_rfl)) (fun _ _ _ h => h) (Or.inr ⟨by rfl, rfl⟩) ?_ ?_
     rotate_left; focus (simp only [Act.put, z1, z2, z3, i64_w, i32_w]; rfl)
     refine pure_ (i := 19) (N := some 52) (v := ?_) (a' := ?_) (zb 20 12) rfl rfl (any_of HT_.out (by kernel_rfl)) (fun _ _ _ h => h) (Or.inl ⟨by rfl, ?_⟩) ?_ ?_
     rotate_left; focus (intro w'; go_simp; with_reducible rfl)
     rotate_left; focus (simp only [Act.put, z1, z2, z3, i64_w, i32_w]; rfl)
     refine pure_ (i := 20) (N := some 53) (v := ?_) (a' := ?_) (zb 21 11) rfl rfl (any_of HT_.out (by kernel_rfl)) (fun _ _ _ h => h) (Or.inl ⟨by rfl, ?_⟩) ?_ ?_
     rotate_left; focus (intro w'; go_simp; with_reducible rfl)
     rotate_left; focus (simp only [Act.put, z1, z2, z3, i64_w, i32_w]; rfl)
     refine pure_ (i := 21) (N := some 54) (v := undef) (a' := ?_) (zb 22 10) rfl rfl (any_of HT_.out (by kernel_rfl)) (fun _ _ _ h => h) (Or.inr ⟨by rfl, rfl⟩) ?_ ?_
     rotate_left; focus (simp only [Act.put, z1, z2, z3, i64_w, i32_w]; rfl)
     refine pure_ (i := 22) (N := some 55) (v := undef) (a' := ?_) (zb 23 9) rfl rfl (any_of HT_.out (by kernel_rfl)) (fun _ _ _ h => h) (Or.inr ⟨by rfl, rfl⟩) ?_ ?_
     rotate_left; focus (simp only [Act.put, z1, z2, z3, i64_w, i32_w]; rfl)
     refine pure_ (i := 23) (N := some 56) (v := undef) (a' := ?_) (zb 24 8) rfl rfl (any_of HT_.out (by kernel_rfl)) (fun _ _ _ h => h) (Or.inr ⟨by rfl, rfl⟩) ?_ ?_
     rotate_left; focus (simp only [Act.put, z1, z2, z3, i64_w, i32_w]; rfl)
     refine pure_ (i := 24) (N := some 57) (v := undef) (a' := ?_) (zb 25 7) rfl rfl (any_of HT_.out (by kernel_rfl)) (fun _ _ _ h => h) (Or.inr ⟨by rfl, rfl⟩) ?_ ?_
     rotate_left; focus (simp only [Act.put, z1, z2, z3, i64_w, i32_w]; rfl)
     refine pure_ (i := 25) (N := some 58) (v := undef) (a' := ?_) (zb 26 6) rfl rfl (any_of HT_.out (by kernel_rfl)) (fun _ _ _ h => h) (Or.inr ⟨by rfl, rfl⟩) ?_ ?_
     rotate_left; focus (simp only [Act.put, z1, z2, z3, i64_w, i32_w]; rfl)
     refine pure_ (i := 26) (N := some 59) (v := undef) (a' := ?_) (zb 27 5) rfl rfl (any_of HT_.out (by kernel_rfl)) (fun _ _ _ h => h) (Or.inr ⟨by rfl, rfl⟩) ?_ ?_
     rotate_left; focus (simp only [Act.put, z1, z2, z3, i64_w, i32_w]; rfl)
     refine pure_ (i := 27) (N := some 60) (v := undef) (a' := ?_) (zb 28 4) rfl rfl (any_of HT_.out (by kernel_rfl)) (fun _ _ _ h => h) (Or.inr ⟨by rfl, rfl⟩) ?_ ?_
     rotate_left; focus (simp only [Act.put, z1, z2, z3, i64_w, i32_w]; rfl)
     refine pure_ (i := 28) (N := some 61) (v := undef) (a' := ?_) (zb 29 3) rfl rfl (any_of HT_.out (by kernel_rfl)) (fun _ _ _ h => h) (Or.inr ⟨by rfl, rfl⟩) ?_ ?_
     rotate_left; focus (simp only [Act.put, z1, z2, z3, i64_w, i32_w]; rfl)
     refine pure_ (i := 29) (N := some 62) (v := undef) (a' := ?_) (zb 30 2) rfl rfl (any_of HT_.out (by kernel_rfl)) (fun _ _ _ h => h) (Or.inr ⟨by rfl, rfl⟩) ?_ ?_
     rotate_left; focus (simp only [Act.put, z1, z2, z3, i64_w, i32_w]; rfl)
     refine pure_ (i := 30) (N := some 63) (v := undef) (a' := ?_) (zb 31 1) rfl rfl (any_of HT_.out (by kernel_rfl)) (fun _ _ _ h => h) (Or.inr ⟨by rfl, rfl⟩) ?_ ?_
     rotate_left; focus (simp only [Act.put, z1, z2, z3, i64_w, i32_w]; rfl)
     refine pure_ (i := 31) (N := some 64) (v := ?_) (a' := ?_) (zb 32 0) rfl rfl (any_of HT_.out (by kernel_rfl)) (fun _ _ _ h => h) (Or.inl ⟨by rfl, ?_⟩) ?_ ?_
     rotate_left; focus (intro w'; go_simp; with_reducible rfl)
     rotate_left; focus (simp only [Act.put, z1, z2, z3, i64_w, i32_w]; rfl)
     refine done_ (done_of HT_.out (by kernel_rfl)) ?_
     try go_wp2
     go_meet
     case rel => exact ⟨_, (true), (by first | rfl | (simp; done) | (simp [*]; done)), H', ⟨by have := HK1.out; first | omega | exact Nat.le_refl _⟩, ⟨by (with_reducible repeat (first | refine blk_drewN ?_ _ | refine blk_drew ?_ | refine blk_alloc ?_ _)); exact BK285.out⟩, ⟨by (with_reducible repeat (first | refine blk_drewN ?_ _ | refine blk_drew ?_ | refine blk_alloc ?_ _)); exact BK288.out⟩, ⟨by repeat (first | (with_reducible first | exact HB.out | apply below_alloc | apply pw_below_drewN | apply below_drew1 | refine below_set ?_ GE285.out | refine below_set ?_ GE288.out) | exact HB.out)⟩⟩
   subst c25
   have H1 : (if ((rd_T47 l2 x28_1).f1) < 0 then (maskref4_SitesFault.j1 k1 l1 l2 x28_1 l2 (l2.length : Int) x28_1 true a0_0 a0_1 a0_2 l0_3 l0_4 l0_5 ((rd_T47 l2 x28_1).f0) ((rd_T47 l2 x28_1).f1)) else (maskref4_SitesFault.j1 k1 l1 l2 x28_1 l2 (l2.length : Int) x28_1 (decide (((rd_T47 l2 x28_1).f1) > (wrap64 (a0_1 - (rd l1 x28_1))))) a0_0 a0_1 a0_2 l0_3 l0_4 l0_5 ((rd_T47 l2 x28_1).f0) ((rd_T47 l2 x28_1).f1))) = some r := by rw [if_pos rfl] at H; exact H
   clear H
   have H := H1
   clear H1
   by_cases c26 : ((rd_T47 l2 x28_1).f1) < 0
   · rw [if_pos c26] at H
     have c26b0 : decide (((rd_T47 l2 x28_1).f1) < 0) = true := decide_eq_true c26
     clear c26
     have H' := Aside0.mk H
     clear H
     try go_wp2
     have n0_ : Aside0 (((w18.setCell ⟨gb288, 0, none⟩ (.int .i64 ((rd_T47 l2 x28_1).f0))).setCell ⟨gb288, 1, none⟩ (.int .i64 ((rd_T47 l2 x28_1).f1))).heap[gb285]? = some (.cells #[.int .i64 a0_0, .int .i64 a0_1, .int .i64 a0_2, .slice A0_3 l0_3.length c0_3, .slice A0_4 l0_4.length c0_4, .slice A0_5 l0_5.length c0_5] 57 (0, 0))) := ⟨by (with_reducible repeat (first | refine blk_drewN ?_ _ | refine blk_drew ?_ | refine blk_alloc ?_ _)); refine blk_far ?_ NB285_288.out _; (with_reducible repeat (first | refine blk_drewN ?_ _ | refine blk_drew ?_ | refine blk_alloc ?_ _)); refine blk_far ?_ NB285_288.out _; (with_reducible repeat (first | refine blk_drewN ?_ _ | refine blk_drew ?_ | refine blk_alloc ?_ _)); exact BK285.out⟩
     have n1_ : Aside0 (((w18.setCell ⟨gb288, 0, none⟩ (.int .i64 ((rd_T47 l2 x28_1).f0))).setCell ⟨gb288, 1, none⟩ (.int .i64 ((rd_T47 l2 x28_1).f1))).heap[gb288]? = some (.cells #[.int .i64 ((rd_T47 l2 x28_1).f0), .int .i64 ((rd_T47 l2 x28_1).f1)] 47 (0, 0))) := ⟨by (with_reducible repeat (first | refine blk_drewN ?_ _ | refine blk_drew ?_ | refine blk_alloc ?_ _)); refine blk_put (cs := #[.int .i64 ((rd_T47 l2 x28_1).f0), .int .i64 0]) ?_ 1 _ rfl; (with_reducible repeat (first | refine blk_drewN ?_ _ | refine blk_drew ?_ | refine blk_alloc ?_ _)); refine blk_put (cs := #[.int .i64 0, .int .i64 0]) ?_ 0 _ rfl; (with_reducible repeat (first | refine blk_drewN ?_ _ | refine blk_drew ?_ | refine blk_alloc ?_ _)); exact BK288.out⟩
     have n2_ : Aside0 (Below w.heap.size w ((w18.setCell ⟨gb288, 0, none⟩ (.int .i64 ((rd_T47 l2 x28_1).f0))).setCell ⟨gb288, 1, none⟩ (.int .i64 ((rd_T47 l2 x28_1).f1)))) := ⟨by repeat (first | (with_reducible first | exact HB.out | apply below_alloc | apply pw_below_drewN | apply below_drew1 | refine below_set ?_ GE285.out | refine below_set ?_ GE288.out) | exact HB.out)⟩
     (try clear BK285)
     (try clear BK288)
     (try clear HB)
     generalize ((w18.setCell ⟨gb288, 0, none⟩ (.int .i64 ((rd_T47 l2 x28_1).f0))).setCell ⟨gb288, 1, none⟩ (.int .i64 ((rd_T47 l2 x28_1).f1))) = w27 at n0_ n1_ n2_ ⊢
     have BK285 := n0_
     have BK288 := n1_
     have HB := n2_
     clear n0_ n1_ n2_
     have n0_ := Aside0.mk (blk_drew BK285.out)
     have n1_ := Aside0.mk (blk_drew BK288.out)
     have n2_ := Aside0.mk (below_drew1 HB.out)
     clear BK285
     clear BK288
     clear HB
     have BK285 := n0_
     have BK288 := n1_
     have HB := n2_
     clear n0_ n1_ n2_
     have p289 : 0 ≤ (x28_1 : Int) := of_decide_eq_true (by first | (with_reducible assumption) | assumption)
     have q289 : x28_1 < (l1.length : Int) := of_decide_eq_true (by first | (with_reducible assumption) | assumption)
     obtain ⟨ad289, e289, hx289_0⟩ := Kd.at_int HR1.out x28_1 p289 q289
     have hw289_0 := hx289_0
     cases e289
     replace hx289_0 := (HB.out.cell (World.block_lt_of_cell? w _ hx289_0)).trans hx289_0
     replace p289 := eq_true p289
     replace q289 := eq_true q289
     refine start_ (n := 32) (S := fun w' => w'.cell? ⟨gb288, 0, none⟩ = some (.int .i64 ((rd_T47 l2 x28_1).f0)) ∧ w'.cell? ⟨gb288, 1, none⟩ = some (.int .i64 ((rd_T47 l2 x28_1).f1)) ∧ w'.cell? ⟨gb285, 0, none⟩ = some (.int .i64 a0_0) ∧ w'.cell? ⟨gb285, 1, none⟩ = some (.int .i64 a0_1) ∧ w'.cell? ⟨gb285, 2, none⟩ = some (.int .i64 a0_2) ∧ w'.cell? ⟨gb285, 3, none⟩ = some (.slice A0_3 l0_3.length c0_3) ∧ w'.cell? ⟨gb285, 4, none⟩ = some (.slice A0_4 l0_4.length c0_4) ∧ w'.cell? ⟨gb285, 5, none⟩ = some (.slice A0_5 l0_5.length c0_5) ∧ w'.cell? (ad289.add (x28_1).toNat) = some (.int .i64 (rd l1 x28_1))) (ds := []) (zb 0 32) (by kernel_rfl) rfl rfl ⟨(blk_cell BK288.out 0).trans rfl, (blk_cell BK288.out 1).trans rfl, (blk_cell BK285.out 0).trans rfl, (blk_cell BK285.out 1).trans rfl, (blk_cell BK285.out 2).trans rfl, (blk_cell BK285.out 3).trans rfl, (blk_cell BK285.out 4).trans rfl, (blk_cell BK285.out 5).trans rfl, ((HB.out.cell (World.block_lt_of_cell? w _ hw289_0)).trans hw289_0)⟩ (fun hHeld => ?_); refine with_tabW maskref4_SitesFault.tab11 maskref4_SitesFault.bits11 (fun HT_ HW_ => ?_)
     generalize w27.drew = w28 at BK285 BK288 HB hx289_0 hHeld ⊢
     refine pure_ (i := 0) (N := some 33) (v := ?_) (a' := ?_) (zb 1 31) rfl rfl (any_of HT_.out (by kernel_rfl)) (fun _ _ _ h => h) (Or.inl ⟨by rfl, ?_⟩) ?_ ?_
     rotate_left; focus (intro w'; go_simp; with_reducible rfl)
     rotate_left; focus (simp only [Act.put, z1, z2, z3, i64_w, i32_w]; rfl)
     refine pure_ (i := 1) (N := some 34) (v := ?_) (a' := ?_) (zb 2 30) rfl rfl (any_of HT_.out (by kernel_rfl)) (fun _ _ _ h => h) (Or.inl ⟨by rfl, ?_⟩) ?_ ?_
     rotate_left; focus (intro w'; go_simp; with_reducible rfl)
     rotate_left; focus (simp only [Act.put, z1, z2, z3, i64_w, i32_w]; rfl)
     refine pure_ (i := 2) (N := some 35) (v := ?_) (a' := ?_) (zb 3 29) rfl rfl (any_of HT_.out (by kernel_rfl)) (fun _ _ _ h => h) (Or.inl ⟨by rfl, ?_⟩) ?_ ?_
     rotate_left; focus (intro w'; go_simp; with_reducible rfl)
     rotate_left; focus (simp only [Act.put, z1, z2, z3, i64_w, i32_w]; rfl)
     refine take_ (i := 3) (N := some 36) (v := ?_) (a' := ?_) (zb 4 28) rfl rfl (take_ofW HT_.out HW_.out (by kernel_rfl)) (fun _ _ _ h => h) (Or.inl ⟨by rfl, ?_⟩) hHeld ?_ ?_
     rotate_left
     · rintro w' ⟨s0, s1, s2, s3, s4, s5, s6, s7, s8⟩
       go_simp
       with_reducible rfl
     rotate_left; focus (simp only [Act.put, z1, z2, z3, i64_w, i32_w]; rfl)
     refine one_ (i := 4) (N := some 37) (zb 5 27) rfl rfl (one_of HT_.out (by kernel_rfl)) (by decide) (fun K hK => ?_)
     refine goes_ Try.func16 (by kernel_rfl) rfl #[.int .i64 (rd l1 x28_1), .int .i64 1, .int .i64 40] (by rfl) rfl rfl (by (try simp only [List.map_toArray, List.map_cons, List.map_nil]); first | done | rfl | (simp only [List.length_drop, List.length_take]; rfl)) ?_
     with_reducible refine (maskref4_In.calls (rd l1 x28_1) 1 40 true _ A22.out).mono ?_
     rintro e w' ⟨rfl, ⟨nd, rfl⟩⟩
     refine ⟨_, rfl, ?_⟩
     refine hK.out _ _ ⟨(blk_cell BK288.out 0).trans rfl, (blk_cell BK288.out 1).trans rfl, (blk_cell BK285.out 0).trans rfl, (blk_cell BK285.out 1).trans rfl, (blk_cell BK285.out 2).trans rfl, (blk_cell BK285.out 3).trans rfl, (blk_cell BK285.out 4).trans rfl, (blk_cell BK285.out 5).trans rfl, ((HB.out.cell (World.block_lt_of_cell? w _ hw289_0)).trans hw289_0)⟩ (fun hHeld => ?_)
     clear hK K
     refine norm_ (a' := ?_) ?_ ?_
     rotate_left; focus (show Act.put _ (some 37) _ = _; simp only [Act.put, z1, z2, z3, i64_w, i32_w]; rfl)
     refine pure_ (i := 5) (N := some 38) (v := ?_) (a' := ?_) (zb 6 26) rfl rfl (any_of HT_.out (by kernel_rfl)) (fun _ _ _ h => h) (Or.inl ⟨by rfl, ?_⟩) ?_ ?_
     rotate_left; focus (intro w'; go_simp; with_reducible rfl)
     rotate_left; focus (simp only [Act.put, z1, z2, z3, i64_w, i32_w]; rfl)
     refine pure_ (i := 6) (N := some 39) (v := ?_) (a' := ?_) (zb 7 25) rfl rfl (any_of HT_.out (by kernel_rfl)) (fun _ _ _ h => h) (Or.inl ⟨by rfl, ?_⟩) ?_ ?_
     rotate_left; focus (intro w'; go_simp; with_reducible rfl)
     rotate_left; focus (simp only [Act.put, z1, z2, z3, i64_w, i32_w]; rfl)
     refine pure_ (i := 7) (N := some 40) (v := ?_) (a' := ?_) (zb 8 24) rfl rfl (any_of HT_.out (by kernel_rfl)) (fun _ _ _ h => h) (Or.inl ⟨by rfl, ?_⟩) ?_ ?_
     rotate_left; focus (intro w'; go_simp; with_reducible rfl)
     rotate_left; focus (simp only [Act.put, z1, z2, z3, i64_w, i32_w]; rfl)
     refine pure_ (i := 9) (N := some 42) (v := ?_) (a' := ?_) #[true,true,true,true,true,true,true,true,false,true,false,false,false,false,false,false,false,false,false,false,false,false,false,false,false,false,false,false,false,false,false,false] rfl rfl (any_of HT_.out (by kernel_rfl)) (fun _ _ _ h => h) (Or.inl ⟨by rfl, ?_⟩) ?_ ?_
     rotate_left; focus (intro w'; go_simp; with_reducible rfl)
     rotate_left; focus (simp only [Act.put, z1, z2, z3, i64_w, i32_w]; rfl)
     refine take_ (i := 8) (N := some 41) (v := ?_) (a' := ?_) (zb 10 22) rfl rfl (take_ofW HT_.out HW_.out (by kernel_rfl)) (fun _ _ _ h => h) (Or.inl ⟨by rfl, ?_⟩) hHeld ?_ ?_
     rotate_left
     · rintro w' ⟨s0, s1, s2, s3, s4, s5, s6, s7, s8⟩
       go_simp
       with_reducible rfl
     rotate_left; focus (simp only [Act.put, z1, z2, z3, i64_w, i32_w]; rfl)
     refine take_ (i := 10) (N := some 43) (v := ?_) (a' := ?_) (zb 11 21) rfl rfl (take_ofW HT_.out HW_.out (by kernel_rfl)) (fun _ _ _ h => h) (Or.inl ⟨by rfl, ?_⟩) hHeld ?_ ?_
     rotate_left
     · rintro w' ⟨s0, s1, s2, s3, s4, s5, s6, s7, s8⟩
       go_simp
       with_reducible rfl
     rotate_left; focus (simp only [Act.put, z1, z2, z3, i64_w, i32_w]; rfl)
     refine pure_ (i := 11) (N := some 44) (v := ?_) (a' := ?_) (zb 12 20) rfl rfl (any_of HT_.out (by kernel_rfl)) (fun _ _ _ h => h) (Or.inl ⟨by rfl, ?_⟩) ?_ ?_
     rotate_left; focus (intro w'; go_simp; with_reducible rfl)
     rotate_left; focus (simp only [Act.put, z1, z2, z3, i64_w, i32_w]; rfl)
     refine one_ (i := 12) (N := some 45) (zb 13 19) rfl rfl (one_of HT_.out (by kernel_rfl)) (by decide) (fun K hK => ?_)
     refine goes_ Try.func16 (by kernel_rfl) rfl #[.int .i64 ((rd_T47 l2 x28_1).f0), .int .i64 0, .int .i64 (wrap64 (a0_0 - 1))] (by rfl) rfl rfl (by (try simp only [List.map_toArray, List.map_cons, List.map_nil]); first | done | rfl | (simp only [List.length_drop, List.length_take]; rfl)) ?_
     with_reducible refine (maskref4_In.calls ((rd_T47 l2 x28_1).f0) 0 (wrap64 (a0_0 - 1)) true _ A24.out).mono ?_
     rintro e w' ⟨rfl, ⟨nd, rfl⟩⟩
     refine ⟨_, rfl, ?_⟩
     refine hK.out _ _ ⟨(blk_cell BK288.out 0).trans rfl, (blk_cell BK288.out 1).trans rfl, (blk_cell BK285.out 0).trans rfl, (blk_cell BK285.out 1).trans rfl, (blk_cell BK285.out 2).trans rfl, (blk_cell BK285.out 3).trans rfl, (blk_cell BK285.out 4).trans rfl, (blk_cell BK285.out 5).trans rfl, ((HB.out.cell (World.block_lt_of_cell? w _ hw289_0)).trans hw289_0)⟩ (fun hHeld => ?_)
     clear hK K
     refine norm_ (a' := ?_) ?_ ?_
     rotate_left; focus (show Act.put _ (some 45) _ = _; simp only [Act.put, z1, z2, z3, i64_w, i32_w]; rfl)
     refine pure_ (i := 13) (N := some 46) (v := ?_) (a' := ?_) (zb 14 18) rfl rfl (any_of HT_.out (by kernel_rfl)) (fun _ _ _ h => h) (Or.inl ⟨by rfl, ?_⟩) ?_ ?_
     rotate_left; focus (intro w'; go_simp; with_reducible rfl)
     rotate_left; focus (simp only [Act.put, z1, z2, z3, i64_w, i32_w]; rfl)
     refine pure_ (i := 14) (N := some 47) (v := ?_) (a' := ?_) (zb 15 17) rfl rfl (any_of HT_.out (by kernel_rfl)) (fun _ _ _ h => h) (Or.inl ⟨by rfl, ?_⟩) ?_ ?_
     rotate_left; focus (intro w'; go_simp; with_reducible rfl)
     rotate_left; focus (simp only [Act.put, z1, z2, z3, i64_w, i32_w]; rfl)
     refine pure_ (i := 15) (N := some 48) (v := ?_) (a' := ?_) (zb 16 16) rfl rfl (any_of HT_.out (by kernel_rfl)) (fun _ _ _ h => h) (Or.inl ⟨by rfl, ?_⟩) ?_ ?_
     rotate_left; focus (intro w'; go_simp; with_reducible rfl)
     rotate_left; focus (simp only [Act.put, z1, z2, z3, i64_w, i32_w]; rfl)
     refine pure_ (i := 16) (N := some 49) (v := ?_) (a' := ?_) (zb 17 15) rfl rfl (any_of HT_.out (by kernel_rfl)) (fun _ _ _ h => h) (Or.inl ⟨by rfl, ?_⟩) ?_ ?_
     rotate_left; focus (intro w'; go_simp; with_reducible rfl)
     rotate_left; focus (simp only [Act.put, z1, z2, z3, i64_w, i32_w]; rfl)
     refine take_ (i := 17) (N := some 50) (v := ?_) (a' := ?_) (zb 18 14) rfl rfl (take_ofW HT_.out HW_.out (by kernel_rfl)) (fun _ _ _ h => h) (Or.inl ⟨by rfl, ?_⟩) hHeld ?_ ?_
     rotate_left
     · rintro w' ⟨s0, s1, s2, s3, s4, s5, s6, s7, s8⟩
       go_simp
       with_reducible rfl
     rotate_left; focus (simp only [Act.put, z1, z2, z3, i64_w, i32_w]; rfl)
     refine pure_ (i := 18) (N := some 51) (v := ?_) (a' := ?_) (zb 19 13) rfl rfl (any_of HT_.out (by kernel_rfl)) (fun _ _ _ h => h) (Or.inl ⟨by rfl, ?_⟩) ?_ ?_
     rotate_left; focus (intro w'; go_simp; with_reducible rfl)
     rotate_left; focus (simp only [Act.put, z1, z2, z3, i64_w, i32_w]; rfl)
     refine pure_ (i := 19) (N := some 52) (v := ?_) (a' := ?_) (zb 20 12) rfl rfl (any_of HT_.out (by kernel_rfl)) (fun _ _ _ h => h) (Or.inl ⟨by rfl, ?_⟩) ?_ ?_
     rotate_left; focus (intro w'; go_simp; with_reducible rfl)
     rotate_left; focus (simp only [Act.put, z1, z2, z3, i64_w, i32_w]; rfl)
     refine pure_ (i := 20) (N := some 53) (v := ?_) (a' := ?_) (zb 21 11) rfl rfl (any_of HT_.out (by kernel_rfl)) (fun _ _ _ h => h) (Or.inl ⟨by rfl, ?_⟩) ?_ ?_
     rotate_left; focus (intro w'; go_simp; with_reducible rfl)
     rotate_left; focus (simp only [Act.put, z1, z2, z3, i64_w, i32_w]; rfl)
     refine pure_ (i := 21) (N := some 54) (v := undef) (a' := ?_) (zb 22 10) rfl rfl (any_of HT_.out (by kernel_rfl)) (fun _ _ _ h => h) (Or.inr ⟨by rfl, rfl⟩) ?_ ?_
     rotate_left; focus (simp only [Act.put, z1, z2, z3, i64_w, i32_w]; rfl)
     refine pure_ (i := 22) (N := some 55) (v := undef) (a' := ?_) (zb 23 9) rfl rfl (any_of HT_.out (by kernel_rfl)) (fun _ _ _ h => h) (Or.inr ⟨by rfl, rfl⟩) ?_ ?_
     rotate_left; focus (simp only [Act.put, z1, z2, z3, i64_w, i32_w]; rfl)
     refine pure_ (i := 23) (N := some 56) (v := undef) (a' := ?_) (zb 24 8) rfl rfl (any_of HT_.out (by kernel_rfl)) (fun _ _ _ h => h) (Or.inr ⟨by rfl, rfl⟩) ?_ ?_
     rotate_left; focus (simp only [Act.put, z1, z2, z3, i64_w, i32_w]; rfl)
     refine pure_ (i := 24) (N := some 57) (v := undef) (a' := ?_) (zb 25 7) rfl rfl (any_of HT_.out (by kernel_rfl)) (fun _ _ _ h => h) (Or.inr ⟨by rfl, rfl⟩) ?_ ?_
     rotate_left; focus (simp only [Act.put, z1, z2, z3, i64_w, i32_w]; rfl)
     refine pure_ (i := 25) (N := some 58) (v := undef) (a' := ?_) (zb 26 6) rfl rfl (any_of HT_.out (by kernel_rfl)) (fun _ _ _ h => h) (Or.inr ⟨by rfl, rfl⟩) ?_ ?_
     rotate_left; focus (simp only [Act.put, z1, z2, z3, i64_w, i32_w]; rfl)
     refine pure_ (i := 26) (N := some 59) (v := undef) (a' := ?_) (zb 27 5) rfl rfl (any_of HT_.out (by kernel_rfl)) (fun _ _ _ h => h) (Or.inr ⟨by rfl, rfl⟩) ?_ ?_
     rotate_left; focus (simp only [Act.put, z1, z2, z3, i64_w, i32_w]; rfl)
     refine pure_ (i := 27) (N := some 60) (v := undef) (a' := ?_) (zb 28 4) rfl rfl (any_of HT_.out (by kernel_rfl)) (fun _ _ _ h => h) (Or.inr ⟨by rfl, rfl⟩) ?_ ?_
     rotate_left; focus (simp only [Act.put, z1, z2, z3, i64_w, i32_w]; rfl)
     refine pure_ (i := 28) (N := some 61) (v := undef) (a' := ?_) (zb 29 3) rfl rfl (any_of HT_.out (by kernel_rfl)) (fun _ _ _ h => h) (Or.inr ⟨by rfl, rfl⟩) ?_ ?_
     rotate_left; focus (simp only [Act.put, z1, z2, z3, i64_w, i32_w]; rfl)
     refine pure_ (i := 29) (N := some 62) (v := undef) (a' := ?_) (zb 30 2) rfl rfl (any_of HT_.out (by kernel_rfl)) (fun _ _ _ h => h) (Or.inr ⟨by rfl, rfl⟩) ?_ ?_
     rotate_left; focus (simp only [Act.put, z1, z2, z3, i64_w, i32_w]; rfl)
     refine pure_ (i := 30) (N := some 63) (v := undef) (a' := ?_) (zb 31 1) rfl rfl (any_of HT_.out (by kernel_rfl)) (fun _ _ _ h => h) (Or.inr ⟨by rfl, rfl⟩) ?_ ?_
     rotate_left; focus (simp only [Act.put, z1, z2, z3, i64_w, i32_w]; rfl)
     refine pure_ (i := 31) (N := some 64) (v := ?_) (a' := ?_) (zb 32 0) rfl rfl (any_of HT_.out (by kernel_rfl)) (fun _ _ _ h => h) (Or.inl ⟨by rfl, ?_⟩) ?_ ?_
     rotate_left; focus (intro w'; go_simp; with_reducible rfl)
     rotate_left; focus (simp only [Act.put, z1, z2, z3, i64_w, i32_w]; rfl)
     refine done_ (done_of HT_.out (by kernel_rfl)) ?_
     try go_wp2
     go_meet
     case rel => exact ⟨_, (true), (by first | rfl | (simp; done) | (simp [*]; done)), H', ⟨by have := HK1.out; first | omega | exact Nat.le_refl _⟩, ⟨by (with_reducible repeat (first | refine blk_drewN ?_ _ | refine blk_drew ?_ | refine blk_alloc ?_ _)); exact BK285.out⟩, ⟨by (with_reducible repeat (first | refine blk_drewN ?_ _ | refine blk_drew ?_ | refine blk_alloc ?_ _)); exact BK288.out⟩, ⟨by repeat (first | (with_reducible first | exact HB.out | apply below_alloc | apply pw_below_drewN | apply below_drew1 | refine below_set ?_ GE285.out | refine below_set ?_ GE288.out) | exact HB.out)⟩⟩
   rw [if_neg c26] at H
   have c26b0 : decide (((rd_T47 l2 x28_1).f1) < 0) = false := decide_eq_false c26
   clear c26
   have H' := Aside0.mk H
   clear H
   try go_wp2
   have n0_ : Aside0 (((w18.setCell ⟨gb288, 0, none⟩ (.int .i64 ((rd_T47 l2 x28_1).f0))).setCell ⟨gb288, 1, none⟩ (.int .i64 ((rd_T47 l2 x28_1).f1))).heap[gb285]? = some (.cells #[.int .i64 a0_0, .int .i64 a0_1, .int .i64 a0_2, .slice A0_3 l0_3.length c0_3, .slice A0_4 l0_4.length c0_4, .slice A0_5 l0_5.length c0_5] 57 (0, 0))) := ⟨by (with_reducible repeat (first | refine blk_drewN ?_ _ | refine blk_drew ?_ | refine blk_alloc ?_ _)); refine blk_far ?_ NB285_288.out _; (with_reducible repeat (first | refine blk_drewN ?_ _ | refine blk_drew ?_ | refine blk_alloc ?_ _)); refine blk_far ?_ NB285_288.out _; (with_reducible repeat (first | refine blk_drewN ?_ _ | refine blk_drew ?_ | refine blk_alloc ?_ _)); exact BK285.out⟩
   have n1_ : Aside0 (((w18.setCell ⟨gb288, 0, none⟩ (.int .i64 ((rd_T47 l2 x28_1).f0))).setCell ⟨gb288, 1, none⟩ (.int .i64 ((rd_T47 l2 x28_1).f1))).heap[gb288]? = some (.cells #[.int .i64 ((rd_T47 l2 x28_1).f0), .int .i64 ((rd_T47 l2 x28_1).f1)] 47 (0, 0))) := ⟨by (with_reducible repeat (first | refine blk_drewN ?_ _ | refine blk_drew ?_ | refine blk_alloc ?_ _)); refine blk_put (cs := #[.int .i64 ((rd_T47 l2 x28_1).f0), .int .i64 0]) ?_ 1 _ rfl; (with_reducible repeat (first | refine blk_drewN ?_ _ | refine blk_drew ?_ | refine blk_alloc ?_ _)); refine blk_put (cs := #[.int .i64 0, .int .i64 0]) ?_ 0 _ rfl; (with_reducible repeat (first | refine blk_drewN ?_ _ | refine blk_drew ?_ | refine blk_alloc ?_ _)); exact BK288.out⟩
   have n2_ : Aside0 (Below w.heap.size w ((w18.setCell ⟨gb288, 0, none⟩ (.int .i64 ((rd_T47 l2 x28_1).f0))).setCell ⟨gb288, 1, none⟩ (.int .i64 ((rd_T47 l2 x28_1).f1)))) := ⟨by repeat (first | (with_reducible first | exact HB.out | apply below_alloc | apply pw_below_drewN | apply below_drew1 | refine below_set ?_ GE285.out | refine below_set ?_ GE288.out) | exact HB.out)⟩
   (try clear BK285)
   (try clear BK288)
   (try clear HB)
   generalize ((w18.setCell ⟨gb288, 0, none⟩ (.int .i64 ((rd_T47 l2 x28_1).f0))).setCell ⟨gb288, 1, none⟩ (.int .i64 ((rd_T47 l2 x28_1).f1))) = w29 at n0_ n1_ n2_ ⊢
   have BK285 := n0_
   have BK288 := n1_
   have HB := n2_
   clear n0_ n1_ n2_
   have n0_ := Aside0.mk (blk_drew BK285.out)
   have n1_ := Aside0.mk (blk_drew BK288.out)
   have n2_ := Aside0.mk (below_drew1 HB.out)
   clear BK285
   clear BK288
   clear HB
   have BK285 := n0_
   have BK288 := n1_
   have HB := n2_
   clear n0_ n1_ n2_
   have p289 : 0 ≤ (x28_1 : Int) := of_decide_eq_true (by first | (with_reducible assumption) | assumption)
   have q289 : x28_1 < (l1.length : Int) := of_decide_eq_true (by first | (with_reducible assumption) | assumption)
   obtain ⟨ad289, e289, hx289_0⟩ := Kd.at_int HR1.out x28_1 p289 q289
   have hw289_0 := hx289_0
   cases e289
   replace hx289_0 := (HB.out.cell (World.block_lt_of_cell? w _ hx289_0)).trans hx289_0
   replace p289 := eq_true p289
   replace q289 := eq_true q289
   have p292 : 0 ≤ (x28_1 : Int) := of_decide_eq_true (by first | (with_reducible assumption) | assumption)
   have q292 : x28_1 < (l1.length : Int) := of_decide_eq_true (by first | (with_reducible assumption) | assumption)
   obtain ⟨ad292, e292, hx292_0⟩ := Kd.at_int HR1.out x28_1 p292 q292
   have hw292_0 := hx292_0
   obtain rfl : ad289 = ad292 := (by injection e292)
   replace hx292_0 := (HB.out.cell (World.block_lt_of_cell? w _ hx292_0)).trans hx292_0
   replace p292 := eq_true p292
   replace q292 := eq_true q292
   refine start_ (n := 32) (S := fun w' => w'.cell? ⟨gb288, 0, none⟩ = some (.int .i64 ((rd_T47 l2 x28_1).f0)) ∧ w'.cell? ⟨gb288, 1, none⟩ = some (.int .i64 ((rd_T47 l2 x28_1).f1)) ∧ w'.cell? ⟨gb285, 0, none⟩ = some (.int .i64 a0_0) ∧ w'.cell? ⟨gb285, 1, none⟩ = some (.int .i64 a0_1) ∧ w'.cell? ⟨gb285, 2, none⟩ = some (.int .i64 a0_2) ∧ w'.cell? ⟨gb285, 3, none⟩ = some (.slice A0_3 l0_3.length c0_3) ∧ w'.cell? ⟨gb285, 4, none⟩ = some (.slice A0_4 l0_4.length c0_4) ∧ w'.cell? ⟨gb285, 5, none⟩ = some (.slice A0_5 l0_5.length c0_5) ∧ w'.cell? (ad289.add (x28_1).toNat) = some (.int .i64 (rd l1 x28_1)) ∧ w'.cell? (ad289.add (x28_1).toNat) = some (.int .i64 (rd l1 x28_1))) (ds := []) (zb 0 32) (by kernel_rfl) rfl rfl ⟨(blk_cell BK288.out 0).trans rfl, (blk_cell BK288.out 1).trans rfl, (blk_cell BK285.out 0).trans rfl, (blk_cell BK285.out 1).trans rfl, (blk_cell BK285.out 2).trans rfl, (blk_cell BK285.out 3).trans rfl, (blk_cell BK285.out 4).trans rfl, (blk_cell BK285.out 5).trans rfl, ((HB.out.cell (World.block_lt_of_cell? w _ hw289_0)).trans hw289_0), ((HB.out.cell (World.block_lt_of_cell? w _ hw292_0)).trans hw292_0)⟩ (fun hHeld => ?_); refine with_tabW maskref4_SitesFault.tab11 maskref4_SitesFault.bits11 (fun HT_ HW_ => ?_)
   generalize w29.drew = w30 at BK285 BK288 HB hx289_0 hx292_0 hHeld ⊢
   refine pure_ (i := 0) (N := some 33) (v := ?_) (a' := ?_) (zb 1 31) rfl rfl (any_of HT_.out (by kernel_rfl)) (fun _ _ _ h => h) (Or.inl ⟨by rfl, ?_⟩) ?_ ?_
   rotate_left; focus (intro w'; go_simp; with_reducible rfl)
   rotate_left; focus (simp only [Act.put, z1, z2, z3, i64_w, i32_w]; rfl)
   refine pure_ (i := 1) (N := some 34) (v := ?_) (a' := ?_) (zb 2 30) rfl rfl (any_of HT_.out (by kernel_rfl)) (fun _ _ _ h => h) (Or.inl ⟨by rfl, ?_⟩) ?_ ?_
   rotate_left; focus (intro w'; go_simp; with_reducible rfl)
   rotate_left; focus (simp only [Act.put, z1, z2, z3, i64_w, i32_w]; rfl)
   refine pure_ (i := 2) (N := some 35) (v := ?_) (a' := ?_) (zb 3 29) rfl rfl (any_of HT_.out (by kernel_rfl)) (fun _ _ _ h => h) (Or.inl ⟨by rfl, ?_⟩) ?_ ?_
   rotate_left; focus (intro w'; go_simp; with_reducible rfl)
   rotate_left; focus (simp only [Act.put, z1, z2, z3, i64_w, i32_w]; rfl)
   refine take_ (i := 3) (N := some 36) (v := ?_) (a' := ?_) (zb 4 28) rfl rfl (take_ofW HT_.out HW_.out (by kernel_rfl)) (fun _ _ _ h => h) (Or.inl ⟨by rfl, ?_⟩) hHeld ?_ ?_
   rotate_left
   · rintro w' ⟨s0, s1, s2, s3, s4, s5, s6, s7, s8, s9⟩
     go_simp
     with_reducible rfl
   rotate_left; focus (simp only [Act.put, z1, z2, z3, i64_w, i32_w]; rfl)
   refine one_ (i := 4) (N := some 37) (zb 5 27) rfl rfl (one_of HT_.out (by kernel_rfl)) (by decide) (fun K hK => ?_)
   refine goes_ Try.func16 (by kernel_rfl) rfl #[.int .i64 (rd l1 x28_1), .int .i64 1, .int .i64 40] (by rfl) rfl rfl (by (try simp only [List.map_toArray, List.map_cons, List.map_nil]); first | done | rfl | (simp only [List.length_drop, List.length_take]; rfl)) ?_
   with_reducible refine (maskref4_In.calls (rd l1 x28_1) 1 40 true _ A22.out).mono ?_
   rintro e w' ⟨rfl, ⟨nd, rfl⟩⟩
   refine ⟨_, rfl, ?_⟩
   refine hK.out _ _ ⟨(blk_cell BK288.out 0).trans rfl, (blk_cell BK288.out 1).trans rfl, (blk_cell BK285.out 0).trans rfl, (blk_cell BK285.out 1).trans rfl, (blk_cell BK285.out 2).trans rfl, (blk_cell BK285.out 3).trans rfl, (blk_cell BK285.out 4).trans rfl, (blk_cell BK285.out 5).trans rfl, ((HB.out.cell (World.block_lt_of_cell? w _ hw289_0)).trans hw289_0), ((HB.out.cell (World.block_lt_of_cell? w _ hw292_0)).trans hw292_0)⟩ (fun hHeld => ?_)
   clear hK K
   refine norm_ (a' := ?_) ?_ ?_
   rotate_left; focus (show Act.put _ (some 37) _ = _; simp only [Act.put, z1, z2, z3, i64_w, i32_w]; rfl)
   refine pure_ (i := 5) (N := some 38) (v := ?_) (a' := ?_) (zb 6 26) rfl rfl (any_of HT_.out (by kernel_rfl)) (fun _ _ _ h => h) (Or.inl ⟨by rfl, ?_⟩) ?_ ?_
   rotate_left; focus (intro w'; go_simp; with_reducible rfl)
   rotate_left; focus (simp only [Act.put, z1, z2, z3, i64_w, i32_w]; rfl)
   refine pure_ (i := 6) (N := some 39) (v := ?_) (a' := ?_) (zb 7 25) rfl rfl (any_of HT_.out (by kernel_rfl)) (fun _ _ _ h => h) (Or.inl ⟨by rfl, ?_⟩) ?_ ?_
   rotate_left; focus (intro w'; go_simp; with_reducible rfl)
   rotate_left; focus (simp only [Act.put, z1, z2, z3, i64_w, i32_w]; rfl)
   refine pure_ (i := 7) (N := some 40) (v := ?_) (a' := ?_) (zb 8 24) rfl rfl (any_of HT_.out (by kernel_rfl)) (fun _ _ _ h => h) (Or.inl ⟨by rfl, ?_⟩) ?_ ?_
   rotate_left; focus (intro w'; go_simp; with_reducible rfl)
   rotate_left; focus (simp only [Act.put, z1, z2, z3, i64_w, i32_w]; rfl)
   refine pure_ (i := 9) (N := some 42) (v := ?_) (a' := ?_) #[true,true,true,true,true,true,true,true,false,true,false,false,false,false,false,false,false,false,false,false,false,false,false,false,false,false,false,false,false,false,false,false] rfl rfl (any_of HT_.out (by kernel_rfl)) (fun _ _ _ h => h) (Or.inl ⟨by rfl, ?_⟩) ?_ ?_
   rotate_left; focus (intro w'; go_simp; with_reducible rfl)
   rotate_left; focus (simp only [Act.put, z1, z2, z3, i64_w, i32_w]; rfl)
   refine take_ (i := 8) (N := some 41) (v := ?_) (a' := ?_) (zb 10 22) rfl rfl (take_ofW HT_.out HW_.out (by kernel_rfl)) (fun _ _ _ h => h) (Or.inl ⟨by rfl, ?_⟩) hHeld ?_ ?_
   rotate_left
   · rintro w' ⟨s0, s1, s2, s3, s4, s5, s6, s7, s8, s9⟩
     go_simp
     with_reducible rfl
   rotate_left; focus (simp only [Act.put, z1, z2, z3, i64_w, i32_w]; rfl)
   refine take_ (i := 10) (N := some 43) (v := ?_) (a' := ?_) (zb 11 21) rfl rfl (take_ofW HT_.out HW_.out (by kernel_rfl)) (fun _ _ _ h => h) (Or.inl ⟨by rfl, ?_⟩) hHeld ?_ ?_
   rotate_left
   · rintro w' ⟨s0, s1, s2, s3, s4, s5, s6, s7, s8, s9⟩
     go_simp
     with_reducible rfl
   rotate_left; focus (simp only [Act.put, z1, z2, z3, i64_w, i32_w]; rfl)
   refine pure_ (i := 11) (N := some 44) (v := ?_) (a' := ?_) (zb 12 20) rfl rfl (any_of HT_.out (by kernel_rfl)) (fun _ _ _ h => h) (Or.inl ⟨by rfl, ?_⟩) ?_ ?_
   rotate_left; focus (intro w'; go_simp; with_reducible rfl)
   rotate_left; focus (simp only [Act.put, z1, z2, z3, i64_w, i32_w]; rfl)
   refine one_ (i := 12) (N := some 45) (zb 13 19) rfl rfl (one_of HT_.out (by kernel_rfl)) (by decide) (fun K hK => ?_)
   refine goes_ Try.func16 (by kernel_rfl) rfl #[.int .i64 ((rd_T47 l2 x28_1).f0), .int .i64 0, .int .i64 (wrap64 (a0_0 - 1))] (by rfl) rfl rfl (by (try simp only [List.map_toArray, List.map_cons, List.map_nil]); first | done | rfl | (simp only [List.length_drop, List.length_take]; rfl)) ?_
   with_reducible refine (maskref4_In.calls ((rd_T47 l2 x28_1).f0) 0 (wrap64 (a0_0 - 1)) true _ A24.out).mono ?_
   rintro e w' ⟨rfl, ⟨nd, rfl⟩⟩
   refine ⟨_, rfl, ?_⟩
   refine hK.out _ _ ⟨(blk_cell BK288.out 0).trans rfl, (blk_cell BK288.out 1).trans rfl, (blk_cell BK285.out 0).trans rfl, (blk_cell BK285.out 1).trans rfl, (blk_cell BK285.out 2).trans rfl, (blk_cell BK285.out 3).trans rfl, (blk_cell BK285.out 4).trans rfl, (blk_cell BK285.out 5).trans rfl, ((HB.out.cell (World.block_lt_of_cell? w _ hw289_0)).trans hw289_0), ((HB.out.cell (World.block_lt_of_cell? w _ hw292_0)).trans hw292_0)⟩ (fun hHeld => ?_)
   clear hK K
   refine norm_ (a' := ?_) ?_ ?_
   rotate_left; focus (show Act.put _ (some 45) _ = _; simp only [Act.put, z1, z2, z3, i64_w, i32_w]; rfl)
   refine pure_ (i := 13) (N := some 46) (v := ?_) (a' := ?_) (zb 14 18) rfl rfl (any_of HT_.out (by kernel_rfl)) (fun _ _ _ h => h) (Or.inl ⟨by rfl, ?_⟩) ?_ ?_
   rotate_left; focus (intro w'; go_simp; with_reducible rfl)
   rotate_left; focus (simp only [Act.put, z1, z2, z3, i64_w, i32_w]; rfl)
   refine pure_ (i := 14) (N := some 47) (v := ?_) (a' := ?_) (zb 15 17) rfl rfl (any_of HT_.out (by kernel_rfl)) (fun _ _ _ h => h) (Or.inl ⟨by rfl, ?_⟩) ?_ ?_
   rotate_left; focus (intro w'; go_simp; with_reducible rfl)
   rotate_left; focus (simp only [Act.put, z1, z2, z3, i64_w, i32_w]; rfl)
   refine pure_ (i := 15) (N := some 48) (v := ?_) (a' := ?_) (zb 16 16) rfl rfl (any_of HT_.out (by kernel_rfl)) (fun _ _ _ h => h) (Or.inl ⟨by rfl, ?_⟩) ?_ ?_
   rotate_left; focus (intro w'; go_simp; with_reducible rfl)
   rotate_left; focus (simp only [Act.put, z1, z2, z3, i64_w, i32_w]; rfl)
   refine pure_ (i := 16) (N := some 49) (v := ?_) (a' := ?_) (zb 17 15) rfl rfl (any_of HT_.out (by kernel_rfl)) (fun _ _ _ h => h) (Or.inl ⟨by rfl, ?_⟩) ?_ ?_
   rotate_left; focus (intro w'; go_simp; with_reducible rfl)
   rotate_left; focus (simp only [Act.put, z1, z2, z3, i64_w, i32_w]; rfl)
   refine take_ (i := 17) (N := some 50) (v := ?_) (a' := ?_) (zb 18 14) rfl rfl (take_ofW HT_.out HW_.out (by kernel_rfl)) (fun _ _ _ h => h) (Or.inl ⟨by rfl, ?_⟩) hHeld ?_ ?_
   rotate_left
   · rintro w' ⟨s0, s1, s2, s3, s4, s5, s6, s7, s8, s9⟩
     go_simp
     with_reducible rfl
   rotate_left; focus (simp only [Act.put, z1, z2, z3, i64_w, i32_w]; rfl)
   refine pure_ (i := 18) (N := some 51) (v := ?_) (a' := ?_) (zb 19 13) rfl rfl (any_of HT_.out (by kernel_rfl)) (fun _ _ _ h => h) (Or.inl ⟨by rfl, ?_⟩) ?_ ?_
   rotate_left; focus (intro w'; go_simp; with_reducible rfl)
   rotate_left; focus (simp only [Act.put, z1, z2, z3, i64_w, i32_w]; rfl)
   refine pure_ (i := 19) (N := some 52) (v := ?_) (a' := ?_) (zb 20 12) rfl rfl (any_of HT_.out (by kernel_rfl)) (fun _ _ _ h => h) (Or.inl ⟨by rfl, ?_⟩) ?_ ?_
   rotate_left; focus (intro w'; go_simp; with_reducible rfl)
   rotate_left; focus (simp only [Act.put, z1, z2, z3, i64_w, i32_w]; rfl)
   refine pure_ (i := 20) (N := some 53) (v := ?_) (a' := ?_) (zb 21 11) rfl rfl (any_of HT_.out (by kernel_rfl)) (fun _ _ _ h => h) (Or.inl ⟨by rfl, ?_⟩) ?_ ?_
   rotate_left; focus (intro w'; go_simp; with_reducible rfl)
   rotate_left; focus (simp only [Act.put, z1, z2, z3, i64_w, i32_w]; rfl)
   refine pure_ (i := 21) (N := some 54) (v := ?_) (a' := ?_) (zb 22 10) rfl rfl (any_of HT_.out (by kernel_rfl)) (fun _ _ _ h => h) (Or.inl ⟨by rfl, ?_⟩) ?_ ?_
   rotate_left; focus (intro w'; go_simp; with_reducible rfl)
   rotate_left; focus (simp only [Act.put, z1, z2, z3, i64_w, i32_w]; rfl)
   refine pure_ (i := 23) (N := some 56) (v := ?_) (a' := ?_) #[true,true,true,true,true,true,true,true,true,true,true,true,true,true,true,true,true,true,true,true,true,true,false,true,false,false,false,false,false,false,false,false] rfl rfl (any_of HT_.out (by kernel_rfl)) (fun _ _ _ h => h) (Or.inl ⟨by rfl, ?_⟩) ?_ ?_
   rotate_left; focus (intro w'; go_simp; with_reducible rfl)
   rotate_left; focus (simp only [Act.put, z1, z2, z3, i64_w, i32_w]; rfl)
   refine pure_ (i := 25) (N := some 58) (v := ?_) (a' := ?_) #[true,true,true,true,true,true,true,true,true,true,true,true,true,true,true,true,true,true,true,true,true,true,false,true,false,true,false,false,false,false,false,false] rfl rfl (any_of HT_.out (by kernel_rfl)) (fun _ _ _ h => h) (Or.inl ⟨by rfl, ?_⟩) ?_ ?_
   rotate_left; focus (intro w'; go_simp; with_reducible rfl)
   rotate_left; focus (simp only [Act.put, z1, z2, z3, i64_w, i32_w]; rfl)
   refine pure_ (i := 26) (N := some 59) (v := ?_) (a' := ?_) #[true,true,true,true,true,true,true,true,true,true,true,true,true,true,true,true,true,true,true,true,true,true,false,true,false,true,true,false,false,false,false,false] rfl rfl (any_of HT_.out (by kernel_rfl)) (fun _ _ _ h => h) (Or.inl ⟨by rfl, ?_⟩) ?_ ?_
   rotate_left; focus (intro w'; go_simp; with_reducible rfl)
   rotate_left; focus (simp only [Act.put, z1, z2, z3, i64_w, i32_w]; rfl)
   refine pure_ (i := 27) (N := some 60) (v := ?_) (a' := ?_) #[true,true,true,true,true,true,true,true,true,true,true,true,true,true,true,true,true,true,true,true,true,true,false,true,false,true,true,true,false,false,false,false] rfl rfl (any_of HT_.out (by kernel_rfl)) (fun _ _ _ h => h) (Or.inl ⟨by rfl, ?_⟩) ?_ ?_
   rotate_left; focus (intro w'; go_simp; with_reducible rfl)
   rotate_left; focus (simp only [Act.put, z1, z2, z3, i64_w, i32_w]; rfl)
   refine take_ (i := 22) (N := some 55) (v := ?_) (a' := ?_) #[true,true,true,true,true,true,true,true,true,true,true,true,true,true,true,true,true,true,true,true,true,true,true,true,false,true,true,true,false,false,false,false] rfl rfl (take_ofW HT_.out HW_.out (by kernel_rfl)) (fun _ _ _ h => h) (Or.inl ⟨by rfl, ?_⟩) hHeld ?_ ?_
   rotate_left
   · rintro w' ⟨s0, s1, s2, s3, s4, s5, s6, s7, s8, s9⟩
     go_simp
     with_reducible rfl
   rotate_left; focus (simp only [Act.put, z1, z2, z3, i64_w, i32_w]; rfl)
   refine take_ (i := 24) (N := some 57) (v := ?_) (a' := ?_) (zb 28 4) rfl rfl (take_ofW HT_.out HW_.out (by kernel_rfl)) (fun _ _ _ h => h) (Or.inl ⟨by rfl, ?_⟩) hHeld ?_ ?_
   rotate_left
   · rintro w' ⟨s0, s1, s2, s3, s4, s5, s6, s7, s8, s9⟩
     go_simp
     with_reducible rfl
   rotate_left; focus (simp only [Act.put, z1, z2, z3, i64_w, i32_w]; rfl)
   refine take_ (i := 28) (N := some 61) (v := ?_) (a' := ?_) (zb 29 3) rfl rfl (take_ofW HT_.out HW_.out (by kernel_rfl)) (fun _ _ _ h => h) (Or.inl ⟨by rfl, ?_⟩) hHeld ?_ ?_
   rotate_left
   · rintro w' ⟨s0, s1, s2, s3, s4, s5, s6, s7, s8, s9⟩
     go_simp
     with_reducible rfl
   rotate_left; focus (simp only [Act.put, z1, z2, z3, i64_w, i32_w]; rfl)
   refine pure_ (i := 29) (N := some 62) (v := ?_) (a' := ?_) (zb 30 2) rfl rfl (any_of HT_.out (by kernel_rfl)) (fun _ _ _ h => h) (Or.inl ⟨by rfl, ?_⟩) ?_ ?_
   rotate_left; focus (intro w'; go_simp; with_reducible rfl)
   rotate_left; focus (simp only [Act.put, z1, z2, z3, i64_w, i32_w]; rfl)
   refine pure_ (i := 30) (N := some 63) (v := ?_) (a' := ?_) (zb 31 1) rfl rfl (any_of HT_.out (by kernel_rfl)) (fun _ _ _ h => h) (Or.inl ⟨by rfl, ?_⟩) ?_ ?_
   rotate_left; focus (intro w'; go_simp; with_reducible rfl)
   rotate_left; focus (simp only [Act.put, z1, z2, z3, i64_w, i32_w]; rfl)
   refine pure_ (i := 31) (N := some 64) (v := ?_) (a' := ?_) (zb 32 0) rfl rfl (any_of HT_.out (by kernel_rfl)) (fun _ _ _ h => h) (Or.inl ⟨by rfl, ?_⟩) ?_ ?_
   rotate_left; focus (intro w'; go_simp; with_reducible rfl)
   rotate_left; focus (simp only [Act.put, z1, z2, z3, i64_w, i32_w]; rfl)
   refine done_ (done_of HT_.out (by kernel_rfl)) ?_
   try go_wp2
   go_meet
   case rel => exact ⟨_, (decide (((rd_T47 l2 x28_1).f1) > (wrap64 (a0_1 - (rd l1 x28_1))))), (by first | rfl | (simp; done) | (simp [*]; done)), H', ⟨by have := HK1.out; first | omega | exact Nat.le_refl _⟩, ⟨by (with_reducible repeat (first | refine blk_drewN ?_ _ | refine blk_drew ?_ | refine blk_alloc ?_ _)); exact BK285.out⟩, ⟨by (with_reducible repeat (first | refine blk_drewN ?_ _ | refine blk_drew ?_ | refine blk_alloc ?_ _)); exact BK288.out⟩, ⟨by repeat (first | (with_reducible first | exact HB.out | apply below_alloc | apply pw_below_drewN | apply below_drew1 | refine below_set ?_ GE285.out | refine below_set ?_ GE288.out) | exact HB.out)⟩⟩
  clear HC17
  obtain ⟨kq, x64_16, rfl, HA, HJ16, BK285, BK288, HB⟩ := hcut
  cases kq with
  | zero => exact absurd HA.out (by simp [maskref4_SitesFault.j1])
  | succ kj16 =>
   have H := HA.out
   clear HA
   simp only [maskref4_SitesFault.j1] at H
   by_cases c35 : x64_16 = true
   · subst c35
     have H1 : (some 2) = some r := by rw [if_pos rfl] at H; exact H
     clear H
     have H := H1
     clear H1
     obtain rfl := Option.some.inj H
     go_wp2
     go_ret
     exact ⟨by first | rfl | (simp [errW_none, errW_some] <;> rfl) | (simp [*, errW_none, errW_some] <;> rfl), by repeat (first | (with_reducible first | exact HB.out | apply below_alloc | apply pw_below_drewN | apply below_drew1 | refine below_set ?_ GE285.out | refine below_set ?_ GE288.out) | exact HB.out)⟩
   replace c35 := Bool.eq_false_iff.mpr c35
   subst c35
   have H1 : (maskref4_SitesFault.l1 kj16 l1 l2 x28_1 ((rd_T47 l2 x28_1).f1) l2 (l2.length : Int) x28_1 a0_0 a0_1 a0_2 l0_3 l0_4 l0_5 ((rd_T47 l2 x28_1).f0) ((rd_T47 l2 x28_1).f1)) = some r := by rw [if_neg (show ¬ (false = true) by decide)] at H; exact H
   clear H
   have H := H1
   clear H1
   have H' := Aside0.mk H
   clear H
   have hcz37_0 : wc.cell? ⟨gb288, 0, none⟩ = some (.int .i64 ((rd_T47 l2 x28_1).f0)) := (blk_cell BK288.out 0).trans rfl
   have hcz37_1 : wc.cell? ⟨gb288, 1, none⟩ = some (.int .i64 ((rd_T47 l2 x28_1).f1)) := (blk_cell BK288.out 1).trans rfl
   have hfz37_0 := blk_frozen BK288.out 0
   have hfz37_1 := blk_frozen BK288.out 1
   go_wp2
   go_loopg [10] kj16 (fun kq v10 w' => ∃ (x10_3 : Int), v10 = .int .i64 x10_3 ∧ Aside0 (maskref4_SitesFault.l1 kq l1 l2 x28_1 x10_3 l2 (l2.length : Int) x28_1 a0_0 a0_1 a0_2 l0_3 l0_4 l0_5 ((rd_T47 l2 x28_1).f0) ((rd_T47 l2 x28_1).f1) = some r) ∧ Aside0 (kq ≤ kj16) ∧ Aside0 (w'.heap[gb285]? = some (.cells #[.int .i64 a0_0, .int .i64 a0_1, .int .i64 a0_2, (.slice A0_3 l0_3.length c0_3), (.slice A0_4 l0_4.length c0_4), (.slice A0_5 l0_5.length c0_5)] 57 (0, 0))) ∧ Aside0 (w'.heap[gb288]? = some (.cells #[.int .i64 ((rd_T47 l2 x28_1).f0), .int .i64 ((rd_T47 l2 x28_1).f1)] 47 (0, 0))) ∧ Aside0 (Below w.heap.size w w'))
   case atStart => exact ⟨(((rd_T47 l2 x28_1).f1)), (by first | rfl | (simp; done) | (simp [*]; done)), H', ⟨Nat.le_refl _⟩, ⟨by (with_reducible repeat (first | refine blk_drewN ?_ _ | refine blk_drew ?_ | refine blk_alloc ?_ _)); exact BK285.out⟩, ⟨by (with_reducible repeat (first | refine blk_drewN ?_ _ | refine blk_drew ?_ | refine blk_alloc ?_ _)); exact BK288.out⟩, ⟨by repeat (first | (with_reducible first | exact HB.out | apply below_alloc | apply pw_below_drewN | apply below_drew1 | refine below_set ?_ GE285.out | refine below_set ?_ GE288.out) | exact HB.out)⟩⟩
   clear H'
   clear hcz37_0 hcz37_1 hfz37_0 hfz37_1
   obtain ⟨x10_3, rfl, HA, HK3, BK285, BK288, HB⟩ := hrel
   cases gk with
   | zero => exact absurd HA.out (by simp [maskref4_SitesFault.l1])
   | succ k3 =>
    have H := HA.out
    clear HA
    simp only [maskref4_SitesFault.l1] at H
    by_cases c38 : 0 ≤ x28_1
    rotate_left
    · rw [if_neg c38] at H
      exact absurd H (by simp)
    rw [if_pos c38] at H
    have c38b0 : decide (0 ≤ x28_1) = true := decide_eq_true c38
    clear c38
    by_cases c39 : x28_1 < (l1.length : Int)
    rotate_left
    · rw [if_neg c39] at H
      exact absurd H (by simp)
    rw [if_pos c39] at H
    have c39b0 : decide (x28_1 < (l1.length : Int)) = true := decide_eq_true c39
    clear c39
    by_cases c40 : x10_3 < (wrap64 (((rd_T47 l2 x28_1).f1) + (rd l1 x28_1)))
    · rw [if_pos c40] at H
      have c40b0 : decide (x10_3 < (wrap64 (((rd_T47 l2 x28_1).f1) + (rd l1 x28_1)))) = true := decide_eq_true c40
      clear c40
      replace H := Option.bind_eq_some_iff.mp H
      obtain ⟨t294, A410, H⟩ := H
      replace H : (if t294 = true then (some 15) else (maskref4_SitesFault.l1 k3 l1 l2 x28_1 (wrap64 (x10_3 + 1)) l2 (l2.length : Int) x28_1 a0_0 a0_1 a0_2 l0_3 l0_4 l0_5 ((rd_T47 l2 x28_1).f0) ((rd_T47 l2 x28_1).f1))) = some r := H
      have A41 := Aside0.mk A410
      clear A410
      by_cases c42 : t294 = true
      · subst c42
        have H1 : (some 15) = some r := by rw [if_pos rfl] at H; exact H
        clear H
        have H := H1
        clear H1
        obtain rfl := Option.some.inj H
        try go_wp2
        have n0_ := Aside0.mk (blk_drew BK285.out)
        have n1_ := Aside0.mk (blk_drew BK288.out)
        have n2_ := Aside0.mk (below_drew1 HB.out)
        clear BK285
        clear BK288
        clear HB
        have BK285 := n0_
        have BK288 := n1_
        have HB := n2_
        clear n0_ n1_ n2_
        have p293 : 0 ≤ (x28_1 : Int) := of_decide_eq_true (by first | (with_reducible assumption) | assumption)
        have q293 : x28_1 < (l1.length : Int) := of_decide_eq_true (by first | (with_reducible assumption) | assumption)
        obtain ⟨ad293, e293, hx293_0⟩ := Kd.at_int HR1.out x28_1 p293 q293
        have hw293_0 := hx293_0
        cases e293
        replace hx293_0 := (HB.out.cell (World.block_lt_of_cell? w _ hx293_0)).trans hx293_0
        replace p293 := eq_true p293
        replace q293 := eq_true q293
        refine start_ (n := 9) (S := fun w' => w'.cell? ⟨gb288, 0, none⟩ = some (.int .i64 ((rd_T47 l2 x28_1).f0)) ∧ w'.cell? ⟨gb288, 1, none⟩ = some (.int .i64 ((rd_T47 l2 x28_1).f1)) ∧ w'.cell? (ad293.add (x28_1).toNat) = some (.int .i64 (rd l1 x28_1))) (ds := []) (zb 0 9) (by kernel_rfl) rfl rfl ⟨(blk_cell BK288.out 0).trans rfl, (blk_cell BK288.out 1).trans rfl, ((HB.out.cell (World.block_lt_of_cell? w _ hw293_0)).trans hw293_0)⟩ (fun hHeld => ?_); refine with_tabW maskref4_SitesFault.tab14 maskref4_SitesFault.bits14 (fun HT_ HW_ => ?_)
        generalize wr.drew = w43 at BK285 BK288 HB hx293_0 hHeld ⊢
        refine pure_ (i := 0) (N := some 67) (v := ?_) (a' := ?_) (zb 1 8) rfl rfl (any_of HT_.out (by kernel_rfl)) (fun _ _ _ h => h) (Or.inl ⟨by rfl, ?_⟩) ?_ ?_
        rotate_left; focus (intro w'; go_simp; with_reducible rfl)
        rotate_left; focus (simp only [Act.put, z1, z2, z3, i64_w, i32_w]; rfl)
        refine pure_ (i := 1) (N := some 68) (v := ?_) (a' := ?_) (zb 2 7) rfl rfl (any_of HT_.out (by kernel_rfl)) (fun _ _ _ h => h) (Or.inl ⟨by rfl, ?_⟩) ?_ ?_
        rotate_left; focus (intro w'; go_simp; with_reducible rfl)
        rotate_left; focus (simp only [Act.put, z1, z2, z3, i64_w, i32_w]; rfl)
        refine pure_ (i := 3) (N := some 70) (v := ?_) (a' := ?_) #[true,true,false,true,false,false,false,false,false] rfl rfl (any_of HT_.out (by kernel_rfl)) (fun _ _ _ h => h) (Or.inl ⟨by rfl, ?_⟩) ?_ ?_
        rotate_left; focus (intro w'; go_simp; with_reducible rfl)
        rotate_left; focus (simp only [Act.put, z1, z2, z3, i64_w, i32_w]; rfl)
        refine pure_ (i := 4) (N := some 71) (v := ?_) (a' := ?_) #[true,true,false,true,true,false,false,false,false] rfl rfl (any_of HT_.out (by kernel_rfl)) (fun _ _ _ h => h) (Or.inl ⟨by rfl, ?_⟩) ?_ ?_
        rotate_left; focus (intro w'; go_simp; with_reducible rfl)
        rotate_left; focus (simp only [Act.put, z1, z2, z3, i64_w, i32_w]; rfl)
        refine pure_ (i := 5) (N := some 72) (v := ?_) (a' := ?_) #[true,true,false,true,true,true,false,false,false] rfl rfl (any_of HT_.out (by kernel_rfl)) (fun _ _ _ h => h) (Or.inl ⟨by rfl, ?_⟩) ?_ ?_
        rotate_left; focus (intro w'; go_simp; with_reducible rfl)
        rotate_left; focus (simp only [Act.put, z1, z2, z3, i64_w, i32_w]; rfl)
        refine take_ (i := 2) (N := some 69) (v := ?_) (a' := ?_) (zb 6 3) rfl rfl (take_ofW HT_.out HW_.out (by kernel_rfl)) (fun _ _ _ h => h) (Or.inl ⟨by rfl, ?_⟩) hHeld ?_ ?_
        rotate_left
        · rintro w' ⟨s0, s1, s2⟩
          go_simp
          with_reducible rfl
        rotate_left; focus (simp only [Act.put, z1, z2, z3, i64_w, i32_w]; rfl)
        refine take_ (i := 6) (N := some 73) (v := ?_) (a' := ?_) (zb 7 2) rfl rfl (take_ofW HT_.out HW_.out (by kernel_rfl)) (fun _ _ _ h => h) (Or.inl ⟨by rfl, ?_⟩) hHeld ?_ ?_
        rotate_left
        · rintro w' ⟨s0, s1, s2⟩
          go_simp
          with_reducible rfl
        rotate_left; focus (simp only [Act.put, z1, z2, z3, i64_w, i32_w]; rfl)
        refine pure_ (i := 7) (N := some 74) (v := ?_) (a' := ?_) (zb 8 1) rfl rfl (any_of HT_.out (by kernel_rfl)) (fun _ _ _ h => h) (Or.inl ⟨by rfl, ?_⟩) ?_ ?_
        rotate_left; focus (intro w'; go_simp; with_reducible rfl)
        rotate_left; focus (simp only [Act.put, z1, z2, z3, i64_w, i32_w]; rfl)
        refine pure_ (i := 8) (N := some 75) (v := ?_) (a' := ?_) (zb 9 0) rfl rfl (any_of HT_.out (by kernel_rfl)) (fun _ _ _ h => h) (Or.inl ⟨by rfl, ?_⟩) ?_ ?_
        rotate_left; focus (intro w'; go_simp; with_reducible rfl)
        rotate_left; focus (simp only [Act.put, z1, z2, z3, i64_w, i32_w]; rfl)
        refine done_ (done_of HT_.out (by kernel_rfl)) ?_
        have hcz45_0 : w43.cell? ⟨gb285, 0, none⟩ = some (.int .i64 a0_0) := (blk_cell BK285.out 0).trans rfl
        have hcz45_1 : w43.cell? ⟨gb285, 1, none⟩ = some (.int .i64 a0_1) := (blk_cell BK285.out 1).trans rfl
        have hcz45_2 : w43.cell? ⟨gb285, 2, none⟩ = some (.int .i64 a0_2) := (blk_cell BK285.out 2).trans rfl
        have hcz45_3 : w43.cell? ⟨gb285, 3, none⟩ = some (.slice A0_3 l0_3.length c0_3) := (blk_cell BK285.out 3).trans rfl
        have hcz45_4 : w43.cell? ⟨gb285, 4, none⟩ = some (.slice A0_4 l0_4.length c0_4) := (blk_cell BK285.out 4).trans rfl
        have hcz45_5 : w43.cell? ⟨gb285, 5, none⟩ = some (.slice A0_5 l0_5.length c0_5) := (blk_cell BK285.out 5).trans rfl
        try go_wp2_with ((with_reducible refine gate_callee (f := 53) rfl ?_); refine goesL_ (some 82) rfl rfl Try.func53 (by kernel_rfl) rfl #[.agg #[.int .i64 a0_0, .int .i64 a0_1, .int .i64 a0_2, .slice A0_3 l0_3.length c0_3, .slice A0_4 l0_4.length c0_4, .slice A0_5 l0_5.length c0_5], .int .i64 ((rd_T47 l2 x28_1).f0), .int .i64 x10_3] rfl (by (try simp only [List.map_toArray, List.map_cons, List.map_nil]); first | done | rfl | (simp only [List.length_drop, List.length_take]; rfl)) ?_; (with_reducible refine (maskref4_blocked.calls k3 a0_0 a0_1 a0_2 _ _ l0_3 _ _ l0_4 _ _ l0_5 ((rd_T47 l2 x28_1).f0) x10_3 true _ ?side1 ?side2 ?side3 ?side4 ?side5 ?side6 A41.out).mono ?_); (case side1 => repeat (first | exact (Kd.C_below HR0_3.out HB.out) | (with_reducible refine Kd.C_alloc ?_ _) | (with_reducible refine Kd.C_drewN ?_ _) | (with_reducible refine Kd.C_drew ?_))); (case side2 => exact HC0_3.out); (case side3 => repeat (first | exact (Kd.C_below HR0_4.out HB.out) | (with_reducible refine Kd.C_alloc ?_ _) | (with_reducible refine Kd.C_drewN ?_ _) | (with_reducible refine Kd.C_drew ?_))); (case side4 => exact HC0_4.out); (case side5 => repeat (first | exact (Kd.C_below HR0_5.out HB.out) | (with_reducible refine Kd.C_alloc ?_ _) | (with_reducible refine Kd.C_drewN ?_ _) | (with_reducible refine Kd.C_drew ?_))); (case side6 => exact HC0_5.out); rintro e w47 ⟨rfl, hb⟩; refine ⟨_, rfl, ?_⟩; have n0_ := Aside0.mk (blk_below (g := gb285) (o := .cells #[.int .i64 a0_0, .int .i64 a0_1, .int .i64 a0_2, .slice A0_3 l0_3.length c0_3, .slice A0_4 l0_4.length c0_4, .slice A0_5 l0_5.length c0_5] 57 (0, 0)) (by (with_reducible repeat (first | refine blk_drewN ?_ _ | refine blk_drew ?_ | refine blk_alloc ?_ _)); exact BK285.out) hb); have n1_ := Aside0.mk (blk_below (g := gb288) (o := .cells #[.int .i64 ((rd_T47 l2 x28_1).f0), .int .i64 ((rd_T47 l2 x28_1).f1)] 47 (0, 0)) (by (with_reducible repeat (first | refine blk_drewN ?_ _ | refine blk_drew ?_ | refine blk_alloc ?_ _)); exact BK288.out) hb); have n2_ := Aside0.mk (below_step (by repeat (first | (with_reducible first | exact HB.out | apply below_alloc | apply pw_below_drewN | apply below_drew1 | refine below_set ?_ GE285.out | refine below_set ?_ GE288.out) | exact HB.out)) hb); clear BK285; clear BK288; clear HB; have HB := n2_; clear n0_ n1_ n2_; (try clear hb); (try clear hb2); (try clear hk); (try clear hi))
        go_ret
        exact ⟨by first | rfl | (simp [errW_none, errW_some] <;> rfl) | (simp [*, errW_none, errW_some] <;> rfl), by repeat (first | (with_reducible first | exact HB.out | apply below_alloc | apply pw_below_drewN | apply below_drew1 | refine below_set ?_ GE285.out | refine below_set ?_ GE288.out) | exact HB.out)⟩
      replace c42 := Bool.eq_false_iff.mpr c42
      subst c42
      have H1 : (maskref4_SitesFault.l1 k3 l1 l2 x28_1 (wrap64 (x10_3 + 1)) l2 (l2.length : Int) x28_1 a0_0 a0_1 a0_2 l0_3 l0_4 l0_5 ((rd_T47 l2 x28_1).f0) ((rd_T47 l2 x28_1).f1)) = some r := by rw [if_neg (show ¬ (false = true) by decide)] at H; exact H
      clear H
      have H := H1
      clear H1
      have H' := Aside0.mk H
      clear H
      try go_wp2
      have n0_ := Aside0.mk (blk_drew BK285.out)
      have n1_ := Aside0.mk (blk_drew BK288.out)
      have n2_ := Aside0.mk (below_drew1 HB.out)
      clear BK285
      clear BK288
      clear HB
      have BK285 := n0_
      have BK288 := n1_
      have HB := n2_
      clear n0_ n1_ n2_
      have p293 : 0 ≤ (x28_1 : Int) := of_decide_eq_true (by first | (with_reducible assumption) | assumption)
      have q293 : x28_1 < (l1.length : Int) := of_decide_eq_true (by first | (with_reducible assumption) | assumption)
      obtain ⟨ad293, e293, hx293_0⟩ := Kd.at_int HR1.out x28_1 p293 q293
      have hw293_0 := hx293_0
      cases e293
      replace hx293_0 := (HB.out.cell (World.block_lt_of_cell? w _ hx293_0)).trans hx293_0
      replace p293 := eq_true p293
      replace q293 := eq_true q293
      refine start_ (n := 9) (S := fun w' => w'.cell? ⟨gb288, 0, none⟩ = some (.int .i64 ((rd_T47 l2 x28_1).f0)) ∧ w'.cell? ⟨gb288, 1, none⟩ = some (.int .i64 ((rd_T47 l2 x28_1).f1)) ∧ w'.cell? (ad293.add (x28_1).toNat) = some (.int .i64 (rd l1 x28_1))) (ds := []) (zb 0 9) (by kernel_rfl) rfl rfl ⟨(blk_cell BK288.out 0).trans rfl, (blk_cell BK288.out 1).trans rfl, ((HB.out.cell (World.block_lt_of_cell? w _ hw293_0)).trans hw293_0)⟩ (fun hHeld => ?_); refine with_tabW maskref4_SitesFault.tab14 maskref4_SitesFault.bits14 (fun HT_ HW_ => ?_)
      generalize wr.drew = w48 at BK285 BK288 HB hx293_0 hHeld ⊢
      refine pure_ (i := 0) (N := some 67) (v := ?_) (a' := ?_) (zb 1 8) rfl rfl (any_of HT_.out (by kernel_rfl)) (fun _ _ _ h => h) (Or.inl ⟨by rfl, ?_⟩) ?_ ?_
      rotate_left; focus (intro w'; go_simp; with_reducible rfl)
      rotate_left; focus (simp only [Act.put, z1, z2, z3, i64_w, i32_w]; rfl)
      refine pure_ (i := 1) (N := some 68) (v := ?_) (a' := ?_) (zb 2 7) rfl rfl (any_of HT_.out (by kernel_rfl)) (fun _ _ _ h => h) (Or.inl ⟨by rfl, ?_⟩) ?_ ?_
      rotate_left; focus (intro w'; go_simp; with_reducible rfl)
      rotate_left; focus (simp only [Act.put, z1, z2, z3, i64_w, i32_w]; rfl)
      refine pure_ (i := 3) (N := some 70) (v := ?_) (a' := ?_) #[true,true,false,true,false,false,false,false,false] rfl rfl (any_of HT_.out (by kernel_rfl)) (fun _ _ _ h => h) (Or.inl ⟨by rfl, ?_⟩) ?_ ?_
      rotate_left; focus (intro w'; go_simp; with_reducible rfl)
      rotate_left; focus (simp only [Act.put, z1, z2, z3, i64_w, i32_w]; rfl)
      refine pure_ (i := 4) (N := some 71) (v := ?_) (a' := ?_) #[true,true,false,true,true,false,false,false,false] rfl rfl (any_of HT_.out (by kernel_rfl)) (fun _ _ _ h => h) (Or.inl ⟨by rfl, ?_⟩) ?_ ?_
      rotate_left; focus (intro w'; go_simp; with_reducible rfl)
      rotate_left; focus (simp only [Act.put, z1, z2, z3, i64_w, i32_w]; rfl)
      refine pure_ (i := 5) (N := some 72) (v := ?_) (a' := ?_) #[true,true,false,true,true,true,false,false,false] rfl rfl (any_of HT_.out (by kernel_rfl)) (fun _ _ _ h => h) (Or.inl ⟨by rfl, ?_⟩) ?_ ?_
      rotate_left; focus (intro w'; go_simp; with_reducible rfl)
      rotate_left; focus (simp only [Act.put, z1, z2, z3, i64_w, i32_w]; rfl)
      refine take_ (i := 2) (N := some 69) (v := ?_) (a' := ?_) (zb 6 3) rfl rfl (take_ofW HT_.out HW_.out (by kernel_rfl)) (fun _ _ _ h => h) (Or.inl ⟨by rfl, ?_⟩) hHeld ?_ ?_
      rotate_left
      · rintro w' ⟨s0, s1, s2⟩
        go_simp
        with_reducible rfl
      rotate_left; focus (simp only [Act.put, z1, z2, z3, i64_w, i32_w]; rfl)
      refine take_ (i := 6) (N := some 73) (v := ?_) (a' := ?_) (zb 7 2) rfl rfl (take_ofW HT_.out HW_.out (by kernel_rfl)) (fun _ _ _ h => h) (Or.inl ⟨by rfl, ?_⟩) hHeld ?_ ?_
      rotate_left
      · rintro w' ⟨s0, s1, s2⟩
        go_simp
        with_reducible rfl
      rotate_left; focus (simp only [Act.put, z1, z2, z3, i64_w, i32_w]; rfl)
      refine pure_ (i := 7) (N := some 74) (v := ?_) (a' := ?_) (zb 8 1) rfl rfl (any_of HT_.out (by kernel_rfl)) (fun _ _ _ h => h) (Or.inl ⟨by rfl, ?_⟩) ?_ ?_
      rotate_left; focus (intro w'; go_simp; with_reducible rfl)
      rotate_left; focus (simp only [Act.put, z1, z2, z3, i64_w, i32_w]; rfl)
      refine pure_ (i := 8) (N := some 75) (v := ?_) (a' := ?_) (zb 9 0) rfl rfl (any_of HT_.out (by kernel_rfl)) (fun _ _ _ h => h) (Or.inl ⟨by rfl, ?_⟩) ?_ ?_
      rotate_left; focus (intro w'; go_simp; with_reducible rfl)
      rotate_left; focus (simp only [Act.put, z1, z2, z3, i64_w, i32_w]; rfl)
      refine done_ (done_of HT_.out (by kernel_rfl)) ?_
      have hcz50_0 : w48.cell? ⟨gb285, 0, none⟩ = some (.int .i64 a0_0) := (blk_cell BK285.out 0).trans rfl
      have hcz50_1 : w48.cell? ⟨gb285, 1, none⟩ = some (.int .i64 a0_1) := (blk_cell BK285.out 1).trans rfl
      have hcz50_2 : w48.cell? ⟨gb285, 2, none⟩ = some (.int .i64 a0_2) := (blk_cell BK285.out 2).trans rfl
      have hcz50_3 : w48.cell? ⟨gb285, 3, none⟩ = some (.slice A0_3 l0_3.length c0_3) := (blk_cell BK285.out 3).trans rfl
      have hcz50_4 : w48.cell? ⟨gb285, 4, none⟩ = some (.slice A0_4 l0_4.length c0_4) := (blk_cell BK285.out 4).trans rfl
      have hcz50_5 : w48.cell? ⟨gb285, 5, none⟩ = some (.slice A0_5 l0_5.length c0_5) := (blk_cell BK285.out 5).trans rfl
      try go_wp2_with ((with_reducible refine gate_callee (f := 53) rfl ?_); refine goesL_ (some 82) rfl rfl Try.func53 (by kernel_rfl) rfl #[.agg #[.int .i64 a0_0, .int .i64 a0_1, .int .i64 a0_2, .slice A0_3 l0_3.length c0_3, .slice A0_4 l0_4.length c0_4, .slice A0_5 l0_5.length c0_5], .int .i64 ((rd_T47 l2 x28_1).f0), .int .i64 x10_3] rfl (by (try simp only [List.map_toArray, List.map_cons, List.map_nil]); first | done | rfl | (simp only [List.length_drop, List.length_take]; rfl)) ?_; (with_reducible refine (maskref4_blocked.calls k3 a0_0 a0_1 a0_2 _ _ l0_3 _ _ l0_4 _ _ l0_5 ((rd_T47 l2 x28_1).f0) x10_3 false _ ?side1 ?side2 ?side3 ?side4 ?side5 ?side6 A41.out).mono ?_); (case side1 => repeat (first | exact (Kd.C_below HR0_3.out HB.out) | (with_reducible refine Kd.C_alloc ?_ _) | (with_reducible refine Kd.C_drewN ?_ _) | (with_reducible refine Kd.C_drew ?_))); (case side2 => exact HC0_3.out); (case side3 => repeat (first | exact (Kd.C_below HR0_4.out HB.out) | (with_reducible refine Kd.C_alloc ?_ _) | (with_reducible refine Kd.C_drewN ?_ _) | (with_reducible refine Kd.C_drew ?_))); (case side4 => exact HC0_4.out); (case side5 => repeat (first | exact (Kd.C_below HR0_5.out HB.out) | (with_reducible refine Kd.C_alloc ?_ _) | (with_reducible refine Kd.C_drewN ?_ _) | (with_reducible refine Kd.C_drew ?_))); (case side6 => exact HC0_5.out); rintro e w52 ⟨rfl, hb⟩; refine ⟨_, rfl, ?_⟩; have n0_ := Aside0.mk (blk_below (g := gb285) (o := .cells #[.int .i64 a0_0, .int .i64 a0_1, .int .i64 a0_2, .slice A0_3 l0_3.length c0_3, .slice A0_4 l0_4.length c0_4, .slice A0_5 l0_5.length c0_5] 57 (0, 0)) (by (with_reducible repeat (first | refine blk_drewN ?_ _ | refine blk_drew ?_ | refine blk_alloc ?_ _)); exact BK285.out) hb); have n1_ := Aside0.mk (blk_below (g := gb288) (o := .cells #[.int .i64 ((rd_T47 l2 x28_1).f0), .int .i64 ((rd_T47 l2 x28_1).f1)] 47 (0, 0)) (by (with_reducible repeat (first | refine blk_drewN ?_ _ | refine blk_drew ?_ | refine blk_alloc ?_ _)); exact BK288.out) hb); have n2_ := Aside0.mk (below_step (by repeat (first | (with_reducible first | exact HB.out | apply below_alloc | apply pw_below_drewN | apply below_drew1 | refine below_set ?_ GE285.out | refine below_set ?_ GE288.out) | exact HB.out)) hb); clear BK285; clear BK288; clear HB; have BK285 := n0_; have BK288 := n1_; have HB := n2_; clear n0_ n1_ n2_; (try clear hb); (try clear hb2); (try clear hk); (try clear hi))
      go_roundg k3
      case measure => have := HK1.out; have := HJ16.out; have := HK3.out; omega
      case rel => exact ⟨(wrap64 (x10_3 + 1)), (by first | rfl | (simp; done) | (simp [*]; done)), H', ⟨by have := HK1.out; have := HJ16.out; have := HK3.out; omega⟩, ⟨by (with_reducible repeat (first | refine blk_drewN ?_ _ | refine blk_drew ?_ | refine blk_alloc ?_ _)); exact BK285.out⟩, ⟨by (with_reducible repeat (first | refine blk_drewN ?_ _ | refine blk_drew ?_ | refine blk_alloc ?_ _)); exact BK288.out⟩, ⟨by repeat (first | (with_reducible first | exact HB.out | apply below_alloc | apply pw_below_drewN | apply below_drew1 | refine below_set ?_ GE285.out | refine below_set ?_ GE288.out) | exact HB.out)⟩⟩
    rw [if_neg c40] at H
    have c40b0 : decide (x10_3 < (wrap64 (((rd_T47 l2 x28_1).f1) + (rd l1 x28_1)))) = false := decide_eq_false c40
    clear c40
    have c53b0 := eq_true (of_decide_eq_true (by first | (with_reducible assumption) | assumption) : 0 ≤ x28_1)
    by_cases c54 : x28_1 ≤ (l2.length : Int)
    rotate_left
    · rw [if_neg c54] at H
      exact absurd H (by simp)
    rw [if_pos c54] at H
    have c54b0 := eq_true c54
    have c54b1 : decide (x28_1 ≤ (l2.length : Int)) = true := decide_eq_true c54
    clear c54
    obtain ⟨y295, hy295⟩ : ∃ y_ : List (S47), y_ = (l2.take (x28_1 : Int).toNat) := ⟨_, rfl⟩
    replace H : (maskref4_SitesFault.l2 k3 l1 l2 x28_1 l2 (l2.length : Int) x28_1 y295 (y295.length : Int) 0 a0_0 a0_1 a0_2 l0_3 l0_4 l0_5 ((rd_T47 l2 x28_1).f0) ((rd_T47 l2 x28_1).f1)) = some r := by first | (rw [hy295]; with_reducible exact H) | (have H2_ := (Option.bind_some _ _).symm.trans H; rw [hy295]; with_reducible exact H2_) | (have H2_ := (Option.bind_some _ _).symm.trans H; with_reducible exact H2_) | with_reducible exact H | (rw [hy295]; exact H) | exact H
    have Ny295 := Aside0.mk hy295
    clear hy295
    have H' := Aside0.mk H
    clear H
    try go_wp2
    have n0_ := Aside0.mk (blk_drew BK285.out)
    have n1_ := Aside0.mk (blk_drew BK288.out)
    have n2_ := Aside0.mk (below_drew1 HB.out)
    clear BK285
    clear BK288
    clear HB
    have BK285 := n0_
    have BK288 := n1_
    have HB := n2_
    clear n0_ n1_ n2_
    have p293 : 0 ≤ (x28_1 : Int) := of_decide_eq_true (by first | (with_reducible assumption) | assumption)
    have q293 : x28_1 < (l1.length : Int) := of_decide_eq_true (by first | (with_reducible assumption) | assumption)
    obtain ⟨ad293, e293, hx293_0⟩ := Kd.at_int HR1.out x28_1 p293 q293
    have hw293_0 := hx293_0
    cases e293
    replace hx293_0 := (HB.out.cell (World.block_lt_of_cell? w _ hx293_0)).trans hx293_0
    replace p293 := eq_true p293
    replace q293 := eq_true q293
    refine start_ (n := 9) (S := fun w' => w'.cell? ⟨gb288, 0, none⟩ = some (.int .i64 ((rd_T47 l2 x28_1).f0)) ∧ w'.cell? ⟨gb288, 1, none⟩ = some (.int .i64 ((rd_T47 l2 x28_1).f1)) ∧ w'.cell? (ad293.add (x28_1).toNat) = some (.int .i64 (rd l1 x28_1))) (ds := []) (zb 0 9) (by kernel_rfl) rfl rfl ⟨(blk_cell BK288.out 0).trans rfl, (blk_cell BK288.out 1).trans rfl, ((HB.out.cell (World.block_lt_of_cell? w _ hw293_0)).trans hw293_0)⟩ (fun hHeld => ?_); refine with_tabW maskref4_SitesFault.tab14 maskref4_SitesFault.bits14 (fun HT_ HW_ => ?_)
    generalize wr.drew = w55 at BK285 BK288 HB hx293_0 hHeld ⊢
    refine pure_ (i := 0) (N := some 67) (v := ?_) (a' := ?_) (zb 1 8) rfl rfl (any_of HT_.out (by kernel_rfl)) (fun _ _ _ h => h) (Or.inl ⟨by rfl, ?_⟩) ?_ ?_
    rotate_left; focus (intro w'; go_simp; with_reducible rfl)
    rotate_left; focus (simp only [Act.put, z1, z2, z3, i64_w, i32_w]; rfl)
    refine pure_ (i := 1) (N := some 68) (v := ?_) (a' := ?_) (zb 2 7) rfl rfl (any_of HT_.out (by kernel_rfl)) (fun _ _ _ h => h) (Or.inl ⟨by rfl, ?_⟩) ?_ ?_
    rotate_left; focus (intro w'; go_simp; with_reducible rfl)
    rotate_left; focus (simp only [Act.put, z1, z2, z3, i64_w, i32_w]; rfl)
    refine pure_ (i := 3) (N := some 70) (v := ?_) (a' := ?_) #[true,true,false,true,false,false,false,false,false] rfl rfl (any_of HT_.out (by kernel_rfl)) (fun _ _ _ h => h) (Or.inl ⟨by rfl, ?_⟩) ?_ ?_
    rotate_left; focus (intro w'; go_simp; with_reducible rfl)
    rotate_left; focus (simp only [Act.put, z1, z2, z3, i64_w, i32_w]; rfl)
    refine pure_ (i := 4) (N := some 71) (v := ?_) (a' := ?_) #[true,true,false,true,true,false,false,false,false] rfl rfl (any_of HT_.out (by kernel_rfl)) (fun _ _ _ h => h) (Or.inl ⟨by rfl, ?_⟩) ?_ ?_
    rotate_left; focus (intro w'; go_simp; with_reducible rfl)
    rotate_left; focus (simp only [Act.put, z1, z2, z3, i64_w, i32_w]; rfl)
    refine pure_ (i := 5) (N := some 72) (v := ?_) (a' := ?_) #[true,true,false,true,true,true,false,false,false] rfl rfl (any_of HT_.out (by kernel_rfl)) (fun _ _ _ h => h) (Or.inl ⟨by rfl, ?_⟩) ?_ ?_
    rotate_left; focus (intro w'; go_simp; with_reducible rfl)
    rotate_left; focus (simp only [Act.put, z1, z2, z3, i64_w, i32_w]; rfl)
    refine take_ (i := 2) (N := some 69) (v := ?_) (a' := ?_) (zb 6 3) rfl rfl (take_ofW HT_.out HW_.out (by kernel_rfl)) (fun _ _ _ h => h) (Or.inl ⟨by rfl, ?_⟩) hHeld ?_ ?_
    rotate_left
    · rintro w' ⟨s0, s1, s2⟩
      go_simp
      with_reducible rfl
    rotate_left; focus (simp only [Act.put, z1, z2, z3, i64_w, i32_w]; rfl)
    refine take_ (i := 6) (N := some 73) (v := ?_) (a' := ?_) (zb 7 2) rfl rfl (take_ofW HT_.out HW_.out (by kernel_rfl)) (fun _ _ _ h => h) (Or.inl ⟨by rfl, ?_⟩) hHeld ?_ ?_
    rotate_left
    · rintro w' ⟨s0, s1, s2⟩
      go_simp
      with_reducible rfl
    rotate_left; focus (simp only [Act.put, z1, z2, z3, i64_w, i32_w]; rfl)
    refine pure_ (i := 7) (N := some 74) (v := ?_) (a' := ?_) (zb 8 1) rfl rfl (any_of HT_.out (by kernel_rfl)) (fun _ _ _ h => h) (Or.inl ⟨by rfl, ?_⟩) ?_ ?_
    rotate_left; focus (intro w'; go_simp; with_reducible rfl)
    rotate_left; focus (simp only [Act.put, z1, z2, z3, i64_w, i32_w]; rfl)
    refine pure_ (i := 8) (N := some 75) (v := ?_) (a' := ?_) (zb 9 0) rfl rfl (any_of HT_.out (by kernel_rfl)) (fun _ _ _ h => h) (Or.inl ⟨by rfl, ?_⟩) ?_ ?_
    rotate_left; focus (intro w'; go_simp; with_reducible rfl)
    rotate_left; focus (simp only [Act.put, z1, z2, z3, i64_w, i32_w]; rfl)
    refine done_ (done_of HT_.out (by kernel_rfl)) ?_
    have q56 : (x28_1 : Int) ≤ ((l2.length : Int) : Int) := of_decide_eq_true (by first | (with_reducible assumption) | assumption)
    obtain ⟨i056, hi056, _, hsz56, _⟩ := info_parts info47
    have hroom56 : l2.length ≤ c2 := HC2.out
    have hC56 : Kd.C k47 _ (some ad287) l2.length l2 := HR2.out
    have hcut56 := cut_to (P := Try.prog) 76 47 .i64 Try.underlying76 hi056 (some ad287) l2.length c2 x28_1 (of_decide_eq_true (by first | (with_reducible assumption) | assumption)) q56 hroom56
    have hr56 := Kd.C_take (m := (x28_1 : Int).toNat) hC56 (by omega)
    have hy56 : y295.length = (x28_1 : Int).toNat := (by rw [Ny295.out, List.length_take]; omega)
    rw [← Ny295.out] at hr56
    rw [← hy56] at hcut56
    have HR298 := Aside0.mk hr56
    clear hr56 hC56 hroom56 hi056 hsz56
    clear hy56
    replace q56 := eq_true q56
    try go_wp2
    go_loopg [87] k3 (fun kq v87 w' => ∃ (x87_4 : Int), v87 = .int .i64 x87_4 ∧ Aside0 (maskref4_SitesFault.l2 kq l1 l2 x28_1 l2 (l2.length : Int) x28_1 y295 (y295.length : Int) x87_4 a0_0 a0_1 a0_2 l0_3 l0_4 l0_5 ((rd_T47 l2 x28_1).f0) ((rd_T47 l2 x28_1).f1) = some r) ∧ Aside0 (kq ≤ k3) ∧ Aside0 (w'.heap[gb285]? = some (.cells #[.int .i64 a0_0, .int .i64 a0_1, .int .i64 a0_2, (.slice A0_3 l0_3.length c0_3), (.slice A0_4 l0_4.length c0_4), (.slice A0_5 l0_5.length c0_5)] 57 (0, 0))) ∧ Aside0 (w'.heap[gb288]? = some (.cells #[.int .i64 ((rd_T47 l2 x28_1).f0), .int .i64 ((rd_T47 l2 x28_1).f1)] 47 (0, 0))) ∧ Aside0 (Below w.heap.size w w'))
    case atStart => exact ⟨(0), (by first | rfl | (simp; done) | (simp [*]; done)), H', ⟨Nat.le_refl _⟩, ⟨by (with_reducible repeat (first | refine blk_drewN ?_ _ | refine blk_drew ?_ | refine blk_alloc ?_ _)); exact BK285.out⟩, ⟨by (with_reducible repeat (first | refine blk_drewN ?_ _ | refine blk_drew ?_ | refine blk_alloc ?_ _)); exact BK288.out⟩, ⟨by repeat (first | (with_reducible first | exact HB.out | apply below_alloc | apply pw_below_drewN | apply below_drew1 | refine below_set ?_ GE285.out | refine below_set ?_ GE288.out) | exact HB.out)⟩⟩
    clear H'
    clear c38b0 c39b0 c40b0 c53b0 c54b0 c54b1 q56 hx293_0 p293 q293
    obtain ⟨x87_4, rfl, HA, HK4, BK285, BK288, HB⟩ := hrel
    cases gk with
    | zero => exact absurd HA.out (by simp [maskref4_SitesFault.l2])
    | succ k4 =>
     have H := HA.out
     clear HA
     simp only [maskref4_SitesFault.l2] at H
     by_cases c57 : x87_4 < (y295.length : Int)
     rotate_left
     · rw [if_neg c57] at H
       have c57b0 : decide (x87_4 < (y295.length : Int)) = false := decide_eq_false c57
       clear c57
       have H' := Aside0.mk H
       clear H
       go_wp2
       go_roundg k4
       case measure => have := HK1.out; have := HJ16.out; have := HK3.out; have := HK4.out; omega
       case rel => exact ⟨(wrap64 (x28_1 + 1)), (by first | rfl | (simp; done) | (simp [*]; done)), H', ⟨by have := HK1.out; have := HJ16.out; have := HK3.out; have := HK4.out; omega⟩, ⟨by (with_reducible repeat (first | refine blk_drewN ?_ _ | refine blk_drew ?_ | refine blk_alloc ?_ _)); exact BK285.out⟩, ⟨by repeat (first | (with_reducible first | exact HB.out | apply below_alloc | apply pw_below_drewN | apply below_drew1 | refine below_set ?_ GE285.out | refine below_set ?_ GE288.out) | exact HB.out)⟩⟩
     rw [if_pos c57] at H
     have c57b0 : decide (x87_4 < (y295.length : Int)) = true := decide_eq_true c57
     clear c57
     by_cases c58 : 0 ≤ x87_4
     rotate_left
     · rw [if_neg c58] at H
       exact absurd H (by simp)
     rw [if_pos c58] at H
     have c58b0 : decide (0 ≤ x87_4) = true := decide_eq_true c58
     clear c58
     by_cases c59 : x87_4 < (y295.length : Int)
     rotate_left
     · rw [if_neg c59] at H
       exact absurd H (by simp)
     rw [if_pos c59] at H
     have c59b0 : decide (x87_4 < (y295.length : Int)) = true := decide_eq_true c59
     clear c59
     have HC60 := Aside0.mk H
     clear H
     have p299 : 0 ≤ (x87_4 : Int) := of_decide_eq_true (by first | (with_reducible assumption) | assumption)
     have q299 : x87_4 < (y295.length : Int) := of_decide_eq_true (by first | (with_reducible assumption) | assumption)
     obtain ⟨ad299, e299, hx299_0, hx299_1⟩ := at_T47 HR298.out x87_4 p299 q299
     obtain rfl : ad287 = ad299 := (by injection e299)
     replace hx299_0 := (HB.out.cell (World.block_lt_of_cell? w _ hx299_0)).trans hx299_0
     replace hx299_1 := (HB.out.cell (World.block_lt_of_cell? w _ hx299_1)).trans hx299_1
     replace p299 := eq_true p299
     replace q299 := eq_true q299
     go_upto_region 21 with ((with_reducible refine gate_dst (N := 12) rfl ?_); refine box_event ?hg (N := 12) ?hd (cs := #[.int .i64 0, .int .i64 0]) (t := 47) ?hr ?_; (case hd => rfl); (case hg => rfl); (case hr => first | (go_simp; done) | (go_simp; rfl)); intro gb300 hg w61 hbox hb; have n0_ := Aside0.mk (blk_below (g := gb285) (o := .cells #[.int .i64 a0_0, .int .i64 a0_1, .int .i64 a0_2, .slice A0_3 l0_3.length c0_3, .slice A0_4 l0_4.length c0_4, .slice A0_5 l0_5.length c0_5] 57 (0, 0)) (by (with_reducible repeat (first | refine blk_drewN ?_ _ | refine blk_drew ?_ | refine blk_alloc ?_ _)); exact BK285.out) hb); have n1_ := Aside0.mk (blk_below (g := gb288) (o := .cells #[.int .i64 ((rd_T47 l2 x28_1).f0), .int .i64 ((rd_T47 l2 x28_1).f1)] 47 (0, 0)) (by (with_reducible repeat (first | refine blk_drewN ?_ _ | refine blk_drew ?_ | refine blk_alloc ?_ _)); exact BK288.out) hb); have n2_ := Aside0.mk (below_step (by repeat (first | (with_reducible first | exact HB.out | apply below_alloc | apply pw_below_drewN | apply below_drew1 | refine below_set ?_ GE285.out | refine below_set ?_ GE288.out) | exact HB.out)) hb); have n3_ := Aside0.mk (hbox); have n4_ := Aside0.mk ((by rw [hg]; exact (below_size (by repeat (first | (with_reducible first | exact HB.out | apply below_alloc | apply pw_below_drewN | apply below_drew1 | refine below_set ?_ GE285.out | refine below_set ?_ GE288.out) | exact HB.out))) : w.heap.size ≤ gb300)); have n5_ := Aside0.mk ((by rw [hg]; exact (below_size (by repeat (first | (with_reducible first | exact HB.out | apply below_alloc | apply pw_below_drewN | apply below_drew1 | refine below_set ?_ GE285.out | refine below_set ?_ GE288.out) | exact HB.out))) : w.heap.size ≤ gb300)); have n6_ := Aside0.mk ((by rw [hg]; exact Nat.ne_of_lt (blk_lt (g := gb285) (o := .cells #[.int .i64 a0_0, .int .i64 a0_1, .int .i64 a0_2, .slice A0_3 l0_3.length c0_3, .slice A0_4 l0_4.length c0_4, .slice A0_5 l0_5.length c0_5] 57 (0, 0)) (by (with_reducible repeat (first | refine blk_drewN ?_ _ | refine blk_drew ?_ | refine blk_alloc ?_ _)); exact BK285.out)) : gb285 ≠ gb300)); have n7_ := Aside0.mk ((by rw [hg]; exact Nat.ne_of_gt (blk_lt (g := gb285) (o := .cells #[.int .i64 a0_0, .int .i64 a0_1, .int .i64 a0_2, .slice A0_3 l0_3.length c0_3, .slice A0_4 l0_4.length c0_4, .slice A0_5 l0_5.length c0_5] 57 (0, 0)) (by (with_reducible repeat (first | refine blk_drewN ?_ _ | refine blk_drew ?_ | refine blk_alloc ?_ _)); exact BK285.out)) : gb300 ≠ gb285)); have n8_ := Aside0.mk ((by rw [hg]; exact Nat.ne_of_lt (blk_lt (g := gb288) (o := .cells #[.int .i64 ((rd_T47 l2 x28_1).f0), .int .i64 ((rd_T47 l2 x28_1).f1)] 47 (0, 0)) (by (with_reducible repeat (first | refine blk_drewN ?_ _ | refine blk_drew ?_ | refine blk_alloc ?_ _)); exact BK288.out)) : gb288 ≠ gb300)); have n9_ := Aside0.mk ((by rw [hg]; exact Nat.ne_of_gt (blk_lt (g := gb288) (o := .cells #[.int .i64 ((rd_T47 l2 x28_1).f0), .int .i64 ((rd_T47 l2 x28_1).f1)] 47 (0, 0)) (by (with_reducible repeat (first | refine blk_drewN ?_ _ | refine blk_drew ?_ | refine blk_alloc ?_ _)); exact BK288.out)) : gb300 ≠ gb288)); clear BK285; clear BK288; clear HB; have BK285 := n0_; have BK288 := n1_; have HB := n2_; have BK300 := n3_; have GE300 := n5_; have NB285_300 := n6_; have NB300_285 := n7_; have NB288_300 := n8_; have NB300_288 := n9_; clear n0_ n1_ n2_ n3_ n4_ n5_ n6_ n7_ n8_ n9_; clear hb hbox hg; have hcz64_0 : w61.cell? ⟨gb300, 0, none⟩ = some (.int .i64 0) := (blk_cell BK300.out 0).trans rfl; have hcz64_1 : w61.cell? ⟨gb300, 1, none⟩ = some (.int .i64 0) := (blk_cell BK300.out 1).trans rfl; have hfz64_0 := blk_frozen BK300.out 0; have hfz64_1 := blk_frozen BK300.out 1)
     (try simp only [Act.put, z1, z2, z3])
     go_cut [120] (fun v120 wc => ∃ (kq : Nat) (x120_59 : Bool), v120 = .bool x120_59 ∧ Aside0 (maskref4_SitesFault.j4 kq l1 l2 x28_1 l2 (l2.length : Int) x28_1 y295 (y295.length : Int) x87_4 x120_59 a0_0 a0_1 a0_2 l0_3 l0_4 l0_5 ((rd_T47 l2 x28_1).f0) ((rd_T47 l2 x28_1).f1) = some r) ∧ Aside0 (kq ≤ k4) ∧ Aside0 (wc.heap[gb285]? = some (.cells #[.int .i64 a0_0, .int .i64 a0_1, .int .i64 a0_2, (.slice A0_3 l0_3.length c0_3), (.slice A0_4 l0_4.length c0_4), (.slice A0_5 l0_5.length c0_5)] 57 (0, 0))) ∧ Aside0 (wc.heap[gb288]? = some (.cells #[.int .i64 ((rd_T47 l2 x28_1).f0), .int .i64 ((rd_T47 l2 x28_1).f1)] 47 (0, 0))) ∧ Aside0 (wc.heap[gb300]? = some (.cells #[.int .i64 ((rd_T47 y295 x87_4).f0), .int .i64 ((rd_T47 y295 x87_4).f1)] 47 (0, 0))) ∧ Aside0 (Below w.heap.size w wc))
     case first =>
      have H := HC60.out
      clear HC60
      by_cases c65 : ((rd_T47 l2 x28_1).f0) = ((rd_T47 y295 x87_4).f0)
      rotate_left
      · rw [if_neg c65] at H
        have c65b0 : (((rd_T47 l2 x28_1).f0) == ((rd_T47 y295 x87_4).f0)) = false := beq_eq_false_iff_ne.mpr c65
        (first | rw [c65b0] | (simp only [i64_w, i32_w]; rw [c65b0]) | skip)
        have H' := Aside0.mk H
        clear H
        try go_wp2
        have n0_ : Aside0 (((w61.setCell ⟨gb300, 0, none⟩ (.int .i64 ((rd_T47 y295 x87_4).f0))).setCell ⟨gb300, 1, none⟩ (.int .i64 ((rd_T47 y295 x87_4).f1))).heap[gb285]? = some (.cells #[.int .i64 a0_0, .int .i64 a0_1, .int .i64 a0_2, .slice A0_3 l0_3.length c0_3, .slice A0_4 l0_4.length c0_4, .slice A0_5 l0_5.length c0_5] 57 (0, 0))) := ⟨by (with_reducible repeat (first | refine blk_drewN ?_ _ | refine blk_drew ?_ | refine blk_alloc ?_ _)); refine blk_far ?_ NB285_300.out _; (with_reducible repeat (first | refine blk_drewN ?_ _ | refine blk_drew ?_ | refine blk_alloc ?_ _)); refine blk_far ?_ NB285_300.out _; (with_reducible repeat (first | refine blk_drewN ?_ _ | refine blk_drew ?_ | refine blk_alloc ?_ _)); exact BK285.out⟩
        have n1_ : Aside0 (((w61.setCell ⟨gb300, 0, none⟩ (.int .i64 ((rd_T47 y295 x87_4).f0))).setCell ⟨gb300, 1, none⟩ (.int .i64 ((rd_T47 y295 x87_4).f1))).heap[gb288]? = some (.cells #[.int .i64 ((rd_T47 l2 x28_1).f0), .int .i64 ((rd_T47 l2 x28_1).f1)] 47 (0, 0))) := ⟨by (with_reducible repeat (first | refine blk_drewN ?_ _ | refine blk_drew ?_ | refine blk_alloc ?_ _)); refine blk_far ?_ NB288_300.out _; (with_reducible repeat (first | refine blk_drewN ?_ _ | refine blk_drew ?_ | refine blk_alloc ?_ _)); refine blk_far ?_ NB288_300.out _; (with_reducible repeat (first | refine blk_drewN ?_ _ | refine blk_drew ?_ | refine blk_alloc ?_ _)); exact BK288.out⟩
        have n2_ : Aside0 (((w61.setCell ⟨gb300, 0, none⟩ (.int .i64 ((rd_T47 y295 x87_4).f0))).setCell ⟨gb300, 1, none⟩ (.int .i64 ((rd_T47 y295 x87_4).f1))).heap[gb300]? = some (.cells #[.int .i64 ((rd_T47 y295 x87_4).f0), .int .i64 ((rd_T47 y295 x87_4).f1)] 47 (0, 0))) := ⟨by (with_reducible repeat (first | refine blk_drewN ?_ _ | refine blk_drew ?_ | refine blk_alloc ?_ _)); refine blk_put (cs := #[.int .i64 ((rd_T47 y295 x87_4).f0), .int .i64 0]) ?_ 1 _ rfl; (with_reducible repeat (first | refine blk_drewN ?_ _ | refine blk_drew ?_ | refine blk_alloc ?_ _)); refine blk_put (cs := #[.int .i64 0, .int .i64 0]) ?_ 0 _ rfl; (with_reducible repeat (first | refine blk_drewN ?_ _ | refine blk_drew ?_ | refine blk_alloc ?_ _)); exact BK300.out⟩
        have n3_ : Aside0 (Below w.heap.size w ((w61.setCell ⟨gb300, 0, none⟩ (.int .i64 ((rd_T47 y295 x87_4).f0))).setCell ⟨gb300, 1, none⟩ (.int .i64 ((rd_T47 y295 x87_4).f1)))) := ⟨by repeat (first | (with_reducible first | exact HB.out | apply below_alloc | apply pw_below_drewN | apply below_drew1 | refine below_set ?_ GE285.out | refine below_set ?_ GE288.out | refine below_set ?_ GE300.out) | exact HB.out)⟩
        (try clear BK285)
        (try clear BK288)
        (try clear BK300)
        (try clear HB)
        generalize ((w61.setCell ⟨gb300, 0, none⟩ (.int .i64 ((rd_T47 y295 x87_4).f0))).setCell ⟨gb300, 1, none⟩ (.int .i64 ((rd_T47 y295 x87_4).f1))) = w74 at n0_ n1_ n2_ n3_ ⊢
        have BK285 := n0_
        have BK288 := n1_
        have BK300 := n2_
        have HB := n3_
        clear n0_ n1_ n2_ n3_
        have n0_ := Aside0.mk (blk_drew BK285.out)
        have n1_ := Aside0.mk (blk_drew BK288.out)
        have n2_ := Aside0.mk (blk_drew BK300.out)
        have n3_ := Aside0.mk (below_drew1 HB.out)
        clear BK285
        clear BK288
        clear BK300
        clear HB
        have BK285 := n0_
        have BK288 := n1_
        have BK300 := n2_
        have HB := n3_
        clear n0_ n1_ n2_ n3_
        refine start_ (n := 29) (S := fun w' => w'.cell? ⟨gb288, 0, none⟩ = some (.int .i64 ((rd_T47 l2 x28_1).f0)) ∧ w'.cell? ⟨gb288, 1, none⟩ = some (.int .i64 ((rd_T47 l2 x28_1).f1)) ∧ w'.cell? ⟨gb300, 0, none⟩ = some (.int .i64 ((rd_T47 y295 x87_4).f0)) ∧ w'.cell? ⟨gb300, 1, none⟩ = some (.int .i64 ((rd_T47 y295 x87_4).f1))) (ds := []) (zb 0 29) (by kernel_rfl) rfl rfl ⟨(blk_cell BK288.out 0).trans rfl, (blk_cell BK288.out 1).trans rfl, (blk_cell BK300.out 0).trans rfl, (blk_cell BK300.out 1).trans rfl⟩ (fun hHeld => ?_); refine with_tabW maskref4_SitesFault.tab21 maskref4_SitesFault.bits21 (fun HT_ HW_ => ?_)
        generalize w74.drew = w75 at BK285 BK288 BK300 HB hHeld ⊢
        refine pure_ (i := 0) (N := some 92) (v := ?_) (a' := ?_) (zb 1 28) rfl rfl (any_of HT_.out (by kernel_rfl)) (fun _ _ _ h => h) (Or.inl ⟨by rfl, ?_⟩) ?_ ?_
        rotate_left; focus (intro w'; go_simp; with_reducible rfl)
        rotate_left; focus (simp only [Act.put, z1, z2, z3, i64_w, i32_w]; rfl)
        refine pure_ (i := 2) (N := some 94) (v := ?_) (a' := ?_) #[true,false,true,false,false,false,false,false,false,false,false,false,false,false,false,false,false,false,false,false,false,false,false,false,false,false,false,false,false] rfl rfl (any_of HT_.out (by kernel_rfl)) (fun _ _ _ h => h) (Or.inl ⟨by rfl, ?_⟩) ?_ ?_
        rotate_left; focus (intro w'; go_simp; with_reducible rfl)
        rotate_left; focus (simp only [Act.put, z1, z2, z3, i64_w, i32_w]; rfl)
        refine take_ (i := 1) (N := some 93) (v := ?_) (a' := ?_) (zb 3 26) rfl rfl (take_ofW HT_.out HW_.out (by kernel_rfl)) (fun _ _ _ h => h) (Or.inl ⟨by rfl, ?_⟩) hHeld ?_ ?_
        rotate_left
        · rintro w' ⟨s0, s1, s2, s3⟩
          go_simp
          with_reducible rfl
        rotate_left; focus (simp only [Act.put, z1, z2, z3, i64_w, i32_w]; rfl)
        refine take_ (i := 3) (N := some 95) (v := ?_) (a' := ?_) (zb 4 25) rfl rfl (take_ofW HT_.out HW_.out (by kernel_rfl)) (fun _ _ _ h => h) (Or.inl ⟨by rfl, ?_⟩) hHeld ?_ ?_
        rotate_left
        · rintro w' ⟨s0, s1, s2, s3⟩
          go_simp
          with_reducible rfl
        rotate_left; focus (simp only [Act.put, z1, z2, z3, i64_w, i32_w]; rfl)
        refine pure_ (i := 4) (N := some 96) (v := ?_) (a' := ?_) (zb 5 24) rfl rfl (any_of HT_.out (by kernel_rfl)) (fun _ _ _ h => h) (Or.inl ⟨by rfl, ?_⟩) ?_ ?_
        rotate_left; focus (intro w'; go_simp; with_reducible rfl)
        rotate_left; focus (simp only [Act.put, z1, z2, z3, i64_w, i32_w]; rfl)
        refine pure_ (i := 5) (N := some 97) (v := ?_) (a' := ?_) (zb 6 23) rfl rfl (any_of HT_.out (by kernel_rfl)) (fun _ _ _ h => h) (Or.inl ⟨by rfl, ?_⟩) ?_ ?_
        rotate_left; focus (intro w'; go_simp; with_reducible rfl)
        rotate_left; focus (simp only [Act.put, z1, z2, z3, i64_w, i32_w]; rfl)
        refine pure_ (i := 6) (N := some 98) (v := undef) (a' := ?_) (zb 7 22) rfl rfl (any_of HT_.out (by kernel_rfl)) (fun _ _ _ h => h) (Or.inr ⟨by rfl, rfl⟩) ?_ ?_
        rotate_left; focus (simp only [Act.put, z1, z2, z3, i64_w, i32_w]; rfl)
        refine pure_ (i := 7) (N := some 99) (v := undef) (a' := ?_) (zb 8 21) rfl rfl (any_of HT_.out (by kernel_rfl)) (fun _ _ _ h => h) (Or.inr ⟨by rfl, rfl⟩) ?_ ?_
        rotate_left; focus (simp only [Act.put, z1, z2, z3, i64_w, i32_w]; rfl)
        refine pure_ (i := 8) (N := some 100) (v := undef) (a' := ?_) (zb 9 20) rfl rfl (any_of HT_.out (by kernel_rfl)) (fun _ _ _ h => h) (Or.inr ⟨by rfl, rfl⟩) ?_ ?_
        rotate_left; focus (simp only [Act.put, z1, z2, z3, i64_w, i32_w]; rfl)
        refine pure_ (i := 9) (N := some 101) (v := undef) (a' := ?_) (zb 10 19) rfl rfl (any_of HT_.out (by kernel_rfl)) (fun _ _ _ h => h) (Or.inr ⟨by rfl, rfl⟩) ?_ ?_
        rotate_left; focus (simp only [Act.put, z1, z2, z3, i64_w, i32_w]; rfl)
        refine pure_ (i := 10) (N := some 102) (v := undef) (a' := ?_) (zb 11 18) rfl rfl (any_of HT_.out (by kernel_rfl)) (fun _ _ _ h => h) (Or.inr ⟨by rfl, rfl⟩) ?_ ?_
        rotate_left; focus (simp only [Act.put, z1, z2, z3, i64_w, i32_w]; rfl)
        refine pure_ (i := 11) (N := some 103) (v := undef) (a' := ?_) (zb 12 17) rfl rfl (any_of HT_.out (by kernel_rfl)) (fun _ _ _ h => h) (Or.inr ⟨by rfl, rfl⟩) ?_ ?_
        rotate_left; focus (simp only [Act.put, z1, z2, z3, i64_w, i32_w]; rfl)
        refine pure_ (i := 12) (N := some 104) (v := undef) (a' := ?_) (zb 13 16) rfl rfl (any_of HT_.out (by kernel_rfl)) (fun _ _ _ h => h) (Or.inr ⟨by rfl, rfl⟩) ?_ ?_
        rotate_left; focus (simp only [Act.put, z1, z2, z3, i64_w, i32_w]; rfl)
        refine pure_ (i := 13) (N := some 105) (v := undef) (a' := ?_) (zb 14 15) rfl rfl (any_of HT_.out (by kernel_rfl)) (fun _ _ _ h => h) (Or.inr ⟨by rfl, rfl⟩) ?_ ?_
        rotate_left; focus (simp only [Act.put, z1, z2, z3, i64_w, i32_w]; rfl)
        refine pure_ (i := 14) (N := some 106) (v := undef) (a' := ?_) (zb 15 14) rfl rfl (any_of HT_.out (by kernel_rfl)) (fun _ _ _ h => h) (Or.inr ⟨by rfl, rfl⟩) ?_ ?_
        rotate_left; focus (simp only [Act.put, z1, z2, z3, i64_w, i32_w]; rfl)
        refine pure_ (i := 15) (N := some 107) (v := undef) (a' := ?_) (zb 16 13) rfl rfl (any_of HT_.out (by kernel_rfl)) (fun _ _ _ h => h) (Or.inr ⟨by rfl, rfl⟩) ?_ ?_
        rotate_left; focus (simp only [Act.put, z1, z2, z3, i64_w, i32_w]; rfl)
        refine pure_ (i := 16) (N := some 108) (v := ?_) (a' := ?_) (zb 17 12) rfl rfl (any_of HT_.out (by kernel_rfl)) (fun _ _ _ h => h) (Or.inl ⟨by rfl, ?_⟩) ?_ ?_
        rotate_left; focus (intro w'; go_simp; with_reducible rfl)
        rotate_left; focus (simp only [Act.put, z1, z2, z3, i64_w, i32_w]; rfl)
        refine pure_ (i := 17) (N := some 109) (v := ?_) (a' := ?_) (zb 18 11) rfl rfl (any_of HT_.out (by kernel_rfl)) (fun _ _ _ h => h) (Or.inl ⟨by rfl, ?_⟩) ?_ ?_
        rotate_left; focus (intro w'; go_simp; with_reducible rfl)
        rotate_left; focus (simp only [Act.put, z1, z2, z3, i64_w, i32_w]; rfl)
        refine pure_ (i := 18) (N := some 110) (v := undef) (a' := ?_) (zb 19 10) rfl rfl (any_of HT_.out (by kernel_rfl)) (fun _ _ _ h => h) (Or.inr ⟨by rfl, rfl⟩) ?_ ?_
        rotate_left; focus (simp only [Act.put, z1, z2, z3, i64_w, i32_w]; rfl)
        refine pure_ (i := 19) (N := some 111) (v := undef) (a' := ?_) (zb 20 9) rfl rfl (any_of HT_.out (by kernel_rfl)) (fun _ _ _ h => h) (Or.inr ⟨by rfl, rfl⟩) ?_ ?_
        rotate_left; focus (simp only [Act.put, z1, z2, z3, i64_w, i32_w]; rfl)
        refine pure_ (i := 20) (N := some 112) (v := undef) (a' := ?_) (zb 21 8) rfl rfl (any_of HT_.out (by kernel_rfl)) (fun _ _ _ h => h) (Or.inr ⟨by rfl, rfl⟩) ?_ ?_
        rotate_left; focus (simp only [Act.put, z1, z2, z3, i64_w, i32_w]; rfl)
        refine pure_ (i := 21) (N := some 113) (v := undef) (a' := ?_) (zb 22 7) rfl rfl (any_of HT_.out (by kernel_rfl)) (fun _ _ _ h => h) (Or.inr ⟨by rfl, rfl⟩) ?_ ?_
        rotate_left; focus (simp only [Act.put, z1, z2, z3, i64_w, i32_w]; rfl)
        refine pure_ (i := 22) (N := some 114) (v := undef) (a' := ?_) (zb 23 6) rfl rfl (any_of HT_.out (by kernel_rfl)) (fun _ _ _ h => h) (Or.inr ⟨by rfl, rfl⟩) ?_ ?_
        rotate_left; focus (simp only [Act.put, z1, z2, z3, i64_w, i32_w]; rfl)
        refine pure_ (i := 23) (N := some 115) (v := undef) (a' := ?_) (zb 24 5) rfl rfl (any_of HT_.out (by kernel_rfl)) (fun _ _ _ h => h) (Or.inr ⟨by rfl, rfl⟩) ?_ ?_
        rotate_left; focus (simp only [Act.put, z1, z2, z3, i64_w, i32_w]; rfl)
        refine pure_ (i := 24) (N := some 116) (v := undef) (a' := ?_) (zb 25 4) rfl rfl (any_of HT_.out (by kernel_rfl)) (fun _ _ _ h => h) (Or.inr ⟨by rfl, rfl⟩) ?_ ?_
        rotate_left; focus (simp only [Act.put, z1, z2, z3, i64_w, i32_w]; rfl)
        refine pure_ (i := 25) (N := some 117) (v := undef) (a' := ?_) (zb 26 3) rfl rfl (any_of HT_.out (by kernel_rfl)) (fun _ _ _ h => h) (Or.inr ⟨by rfl, rfl⟩) ?_ ?_
        rotate_left; focus (simp only [Act.put, z1, z2, z3, i64_w, i32_w]; rfl)
        refine pure_ (i := 26) (N := some 118) (v := undef) (a' := ?_) (zb 27 2) rfl rfl (any_of HT_.out (by kernel_rfl)) (fun _ _ _ h => h) (Or.inr ⟨by rfl, rfl⟩) ?_ ?_
        rotate_left; focus (simp only [Act.put, z1, z2, z3, i64_w, i32_w]; rfl)
        refine pure_ (i := 27) (N := some 119) (v := undef) (a' := ?_) (zb 28 1) rfl rfl (any_of HT_.out (by kernel_rfl)) (fun _ _ _ h => h) (Or.inr ⟨by rfl, rfl⟩) ?_ ?_
        rotate_left; focus (simp only [Act.put, z1, z2, z3, i64_w, i32_w]; rfl)
        refine pure_ (i := 28) (N := some 120) (v := ?_) (a' := ?_) (zb 29 0) rfl rfl (any_of HT_.out (by kernel_rfl)) (fun _ _ _ h => h) (Or.inl ⟨by rfl, ?_⟩) ?_ ?_
        rotate_left; focus (intro w'; go_simp; with_reducible rfl)
        rotate_left; focus (simp only [Act.put, z1, z2, z3, i64_w, i32_w]; rfl)
        refine done_ (done_of HT_.out (by kernel_rfl)) ?_
        try go_wp2
        go_meet
        case rel => exact ⟨_, (false), (by first | rfl | (simp; done) | (simp [*]; done)), H', ⟨by have := HK1.out; have := HJ16.out; have := HK3.out; have := HK4.out; first | omega | exact Nat.le_refl _⟩, ⟨by (with_reducible repeat (first | refine blk_drewN ?_ _ | refine blk_drew ?_ | refine blk_alloc ?_ _)); exact BK285.out⟩, ⟨by (with_reducible repeat (first | refine blk_drewN ?_ _ | refine blk_drew ?_ | refine blk_alloc ?_ _)); exact BK288.out⟩, ⟨by (with_reducible repeat (first | refine blk_drewN ?_ _ | refine blk_drew ?_ | refine blk_alloc ?_ _)); exact BK300.out⟩, ⟨by repeat (first | (with_reducible first | exact HB.out | apply below_alloc | apply pw_below_drewN | apply below_drew1 | refine below_set ?_ GE285.out | refine below_set ?_ GE288.out | refine below_set ?_ GE300.out) | exact HB.out)⟩⟩
      rw [if_pos c65] at H
      have c65b0 : (((rd_T47 l2 x28_1).f0) == ((rd_T47 y295 x87_4).f0)) = true := beq_iff_eq.mpr c65
      have c65b1 : (((rd_T47 l2 x28_1).f0) != ((rd_T47 y295 x87_4).f0)) = false := bne_eq_false_iff_eq.mpr c65
      clear c65
      (first | rw [c65b0] | (simp only [i64_w, i32_w]; rw [c65b0]) | skip)
      by_cases c66 : x87_4 < (l1.length : Int)
      rotate_left
      · rw [if_neg c66] at H
        exact absurd H (by simp)
      rw [if_pos c66] at H
      have c66b0 : decide (x87_4 < (l1.length : Int)) = true := decide_eq_true c66
      clear c66
      by_cases c67 : ((rd_T47 l2 x28_1).f1) < (wrap64 (((rd_T47 y295 x87_4).f1) + (rd l1 x87_4)))
      rotate_left
      · rw [if_neg c67] at H
        have c67b0 : decide (((rd_T47 l2 x28_1).f1) < (wrap64 (((rd_T47 y295 x87_4).f1) + (rd l1 x87_4)))) = false := decide_eq_false c67
        clear c67
        have H' := Aside0.mk H
        clear H
        try go_wp2
        have n0_ : Aside0 (((w61.setCell ⟨gb300, 0, none⟩ (.int .i64 ((rd_T47 y295 x87_4).f0))).setCell ⟨gb300, 1, none⟩ (.int .i64 ((rd_T47 y295 x87_4).f1))).heap[gb285]? = some (.cells #[.int .i64 a0_0, .int .i64 a0_1, .int .i64 a0_2, .slice A0_3 l0_3.length c0_3, .slice A0_4 l0_4.length c0_4, .slice A0_5 l0_5.length c0_5] 57 (0, 0))) := ⟨by (with_reducible repeat (first | refine blk_drewN ?_ _ | refine blk_drew ?_ | refine blk_alloc ?_ _)); refine blk_far ?_ NB285_300.out _; (with_reducible repeat (first | refine blk_drewN ?_ _ | refine blk_drew ?_ | refine blk_alloc ?_ _)); refine blk_far ?_ NB285_300.out _; (with_reducible repeat (first | refine blk_drewN ?_ _ | refine blk_drew ?_ | refine blk_alloc ?_ _)); exact BK285.out⟩
        have n1_ : Aside0 (((w61.setCell ⟨gb300, 0, none⟩ (.int .i64 ((rd_T47 y295 x87_4).f0))).setCell ⟨gb300, 1, none⟩ (.int .i64 ((rd_T47 y295 x87_4).f1))).heap[gb288]? = some (.cells #[.int .i64 ((rd_T47 l2 x28_1).f0), .int .i64 ((rd_T47 l2 x28_1).f1)] 47 (0, 0))) := ⟨by (with_reducible repeat (first | refine blk_drewN ?_ _ | refine blk_drew ?_ | refine blk_alloc ?_ _)); refine blk_far ?_ NB288_300.out _; (with_reducible repeat (first | refine blk_drewN ?_ _ | refine blk_drew ?_ | refine blk_alloc ?_ _)); refine blk_far ?_ NB288_300.out _; (with_reducible repeat (first | refine blk_drewN ?_ _ | refine blk_drew ?_ | refine blk_alloc ?_ _)); exact BK288.out⟩
        have n2_ : Aside0 (((w61.setCell ⟨gb300, 0, none⟩ (.int .i64 ((rd_T47 y295 x87_4).f0))).setCell ⟨gb300, 1, none⟩ (.int .i64 ((rd_T47 y295 x87_4).f1))).heap[gb300]? = some (.cells #[.int .i64 ((rd_T47 y295 x87_4).f0), .int .i64 ((rd_T47 y295 x87_4).f1)] 47 (0, 0))) := ⟨by (with_reducible repeat (first | refine blk_drewN ?_ _ | refine blk_drew ?_ | refine blk_alloc ?_ _)); refine blk_put (cs := #[.int .i64 ((rd_T47 y295 x87_4).f0), .int .i64 0]) ?_ 1 _ rfl; (with_reducible repeat (first | refine blk_drewN ?_ _ | refine blk_drew ?_ | refine blk_alloc ?_ _)); refine blk_put (cs := #[.int .i64 0, .int .i64 0]) ?_ 0 _ rfl; (with_reducible repeat (first | refine blk_drewN ?_ _ | refine blk_drew ?_ | refine blk_alloc ?_ _)); exact BK300.out⟩
        have n3_ : Aside0 (Below w.heap.size w ((w61.setCell ⟨gb300, 0, none⟩ (.int .i64 ((rd_T47 y295 x87_4).f0))).setCell ⟨gb300, 1, none⟩ (.int .i64 ((rd_T47 y295 x87_4).f1)))) := ⟨by repeat (first | (with_reducible first | exact HB.out | apply below_alloc | apply pw_below_drewN | apply below_drew1 | refine below_set ?_ GE285.out | refine below_set ?_ GE288.out | refine below_set ?_ GE300.out) | exact HB.out)⟩
        (try clear BK285)
        (try clear BK288)
        (try clear BK300)
        (try clear HB)
        generalize ((w61.setCell ⟨gb300, 0, none⟩ (.int .i64 ((rd_T47 y295 x87_4).f0))).setCell ⟨gb300, 1, none⟩ (.int .i64 ((rd_T47 y295 x87_4).f1))) = w72 at n0_ n1_ n2_ n3_ ⊢
        have BK285 := n0_
        have BK288 := n1_
        have BK300 := n2_
        have HB := n3_
        clear n0_ n1_ n2_ n3_
        have n0_ := Aside0.mk (blk_drew BK285.out)
        have n1_ := Aside0.mk (blk_drew BK288.out)
        have n2_ := Aside0.mk (blk_drew BK300.out)
        have n3_ := Aside0.mk (below_drew1 HB.out)
        clear BK285
        clear BK288
        clear BK300
        clear HB
        have BK285 := n0_
        have BK288 := n1_
        have BK300 := n2_
        have HB := n3_
        clear n0_ n1_ n2_ n3_
        have p301 : 0 ≤ (x87_4 : Int) := of_decide_eq_true (by first | (with_reducible assumption) | assumption)
        have q301 : x87_4 < (l1.length : Int) := of_decide_eq_true (by first | (with_reducible assumption) | assumption)
        obtain ⟨ad301, e301, hx301_0⟩ := Kd.at_int HR1.out x87_4 p301 q301
        have hw301_0 := hx301_0
        obtain rfl : ad293 = ad301 := (by injection e301)
        replace hx301_0 := (HB.out.cell (World.block_lt_of_cell? w _ hx301_0)).trans hx301_0
        replace p301 := eq_true p301
        replace q301 := eq_true q301
        refine start_ (n := 29) (S := fun w' => w'.cell? ⟨gb288, 0, none⟩ = some (.int .i64 ((rd_T47 l2 x28_1).f0)) ∧ w'.cell? ⟨gb288, 1, none⟩ = some (.int .i64 ((rd_T47 l2 x28_1).f1)) ∧ w'.cell? ⟨gb300, 0, none⟩ = some (.int .i64 ((rd_T47 y295 x87_4).f0)) ∧ w'.cell? ⟨gb300, 1, none⟩ = some (.int .i64 ((rd_T47 y295 x87_4).f1)) ∧ w'.cell? (ad293.add (x87_4).toNat) = some (.int .i64 (rd l1 x87_4))) (ds := []) (zb 0 29) (by kernel_rfl) rfl rfl ⟨(blk_cell BK288.out 0).trans rfl, (blk_cell BK288.out 1).trans rfl, (blk_cell BK300.out 0).trans rfl, (blk_cell BK300.out 1).trans rfl, ((HB.out.cell (World.block_lt_of_cell? w _ hw301_0)).trans hw301_0)⟩ (fun hHeld => ?_); refine with_tabW maskref4_SitesFault.tab21 maskref4_SitesFault.bits21 (fun HT_ HW_ => ?_)
        generalize w72.drew = w73 at BK285 BK288 BK300 HB hx301_0 hHeld ⊢
        refine pure_ (i := 0) (N := some 92) (v := ?_) (a' := ?_) (zb 1 28) rfl rfl (any_of HT_.out (by kernel_rfl)) (fun _ _ _ h => h) (Or.inl ⟨by rfl, ?_⟩) ?_ ?_
        rotate_left; focus (intro w'; go_simp; with_reducible rfl)
        rotate_left; focus (simp only [Act.put, z1, z2, z3, i64_w, i32_w]; rfl)
        refine pure_ (i := 2) (N := some 94) (v := ?_) (a' := ?_) #[true,false,true,false,false,false,false,false,false,false,false,false,false,false,false,false,false,false,false,false,false,false,false,false,false,false,false,false,false] rfl rfl (any_of HT_.out (by kernel_rfl)) (fun _ _ _ h => h) (Or.inl ⟨by rfl, ?_⟩) ?_ ?_
        rotate_left; focus (intro w'; go_simp; with_reducible rfl)
        rotate_left; focus (simp only [Act.put, z1, z2, z3, i64_w, i32_w]; rfl)
        refine take_ (i := 1) (N := some 93) (v := ?_) (a' := ?_) (zb 3 26) rfl rfl (take_ofW HT_.out HW_.out (by kernel_rfl)) (fun _ _ _ h => h) (Or.inl ⟨by rfl, ?_⟩) hHeld ?_ ?_
        rotate_left
        · rintro w' ⟨s0, s1, s2, s3, s4⟩
          go_simp
          with_reducible rfl
        rotate_left; focus (simp only [Act.put, z1, z2, z3, i64_w, i32_w]; rfl)
        refine take_ (i := 3) (N := some 95) (v := ?_) (a' := ?_) (zb 4 25) rfl rfl (take_ofW HT_.out HW_.out (by kernel_rfl)) (fun _ _ _ h => h) (Or.inl ⟨by rfl, ?_⟩) hHeld ?_ ?_
        rotate_left
        · rintro w' ⟨s0, s1, s2, s3, s4⟩
          go_simp
          with_reducible rfl
        rotate_left; focus (simp only [Act.put, z1, z2, z3, i64_w, i32_w]; rfl)
        refine pure_ (i := 4) (N := some 96) (v := ?_) (a' := ?_) (zb 5 24) rfl rfl (any_of HT_.out (by kernel_rfl)) (fun _ _ _ h => h) (Or.inl ⟨by rfl, ?_⟩) ?_ ?_
        rotate_left; focus (intro w'; go_simp; with_reducible rfl)
        rotate_left; focus (simp only [Act.put, z1, z2, z3, i64_w, i32_w]; rfl)
        refine pure_ (i := 5) (N := some 97) (v := ?_) (a' := ?_) (zb 6 23) rfl rfl (any_of HT_.out (by kernel_rfl)) (fun _ _ _ h => h) (Or.inl ⟨by rfl, ?_⟩) ?_ ?_
        rotate_left; focus (intro w'; go_simp; with_reducible rfl)
        rotate_left; focus (simp only [Act.put, z1, z2, z3, i64_w, i32_w]; rfl)
        refine pure_ (i := 6) (N := some 98) (v := ?_) (a' := ?_) (zb 7 22) rfl rfl (any_of HT_.out (by kernel_rfl)) (fun _ _ _ h => h) (Or.inl ⟨by rfl, ?_⟩) ?_ ?_
        rotate_left; focus (intro w'; go_simp; with_reducible rfl)
        rotate_left; focus (simp only [Act.put, z1, z2, z3, i64_w, i32_w]; rfl)
        refine pure_ (i := 8) (N := some 100) (v := ?_) (a' := ?_) #[true,true,true,true,true,true,true,false,true,false,false,false,false,false,false,false,false,false,false,false,false,false,false,false,false,false,false,false,false] rfl rfl (any_of HT_.out (by kernel_rfl)) (fun _ _ _ h => h) (Or.inl ⟨by rfl, ?_⟩) ?_ ?_
        rotate_left; focus (intro w'; go_simp; with_reducible rfl)
        rotate_left; focus (simp only [Act.put, z1, z2, z3, i64_w, i32_w]; rfl)
        refine pure_ (i := 10) (N := some 102) (v := ?_) (a' := ?_) #[true,true,true,true,true,true,true,false,true,false,true,false,false,false,false,false,false,false,false,false,false,false,false,false,false,false,false,false,false] rfl rfl (any_of HT_.out (by kernel_rfl)) (fun _ _ _ h => h) (Or.inl ⟨by rfl, ?_⟩) ?_ ?_
        rotate_left; focus (intro w'; go_simp; with_reducible rfl)
        rotate_left; focus (simp only [Act.put, z1, z2, z3, i64_w, i32_w]; rfl)
        refine pure_ (i := 11) (N := some 103) (v := ?_) (a' := ?_) #[true,true,true,true,true,true,true,false,true,false,true,true,false,false,false,false,false,false,false,false,false,false,false,false,false,false,false,false,false] rfl rfl (any_of HT_.out (by kernel_rfl)) (fun _ _ _ h => h) (Or.inl ⟨by rfl, ?_⟩) ?_ ?_
        rotate_left; focus (intro w'; go_simp; with_reducible rfl)
        rotate_left; focus (simp only [Act.put, z1, z2, z3, i64_w, i32_w]; rfl)
        refine pure_ (i := 12) (N := some 104) (v := ?_) (a' := ?_) #[true,true,true,true,true,true,true,false,true,false,true,true,true,false,false,false,false,false,false,false,false,false,false,false,false,false,false,false,false] rfl rfl (any_of HT_.out (by kernel_rfl)) (fun _ _ _ h => h) (Or.inl ⟨by rfl, ?_⟩) ?_ ?_
        rotate_left; focus (intro w'; go_simp; with_reducible rfl)
        rotate_left; focus (simp only [Act.put, z1, z2, z3, i64_w, i32_w]; rfl)
        refine take_ (i := 7) (N := some 99) (v := ?_) (a' := ?_) #[true,true,true,true,true,true,true,true,true,false,true,true,true,false,false,false,false,false,false,false,false,false,false,false,false,false,false,false,false] rfl rfl (take_ofW HT_.out HW_.out (by kernel_rfl)) (fun _ _ _ h => h) (Or.inl ⟨by rfl, ?_⟩) hHeld ?_ ?_
        rotate_left
        · rintro w' ⟨s0, s1, s2, s3, s4⟩
          go_simp
          with_reducible rfl
        rotate_left; focus (simp only [Act.put, z1, z2, z3, i64_w, i32_w]; rfl)
        refine take_ (i := 9) (N := some 101) (v := ?_) (a' := ?_) (zb 13 16) rfl rfl (take_ofW HT_.out HW_.out (by kernel_rfl)) (fun _ _ _ h => h) (Or.inl ⟨by rfl, ?_⟩) hHeld ?_ ?_
        rotate_left
        · rintro w' ⟨s0, s1, s2, s3, s4⟩
          go_simp
          with_reducible rfl
        rotate_left; focus (simp only [Act.put, z1, z2, z3, i64_w, i32_w]; rfl)
        refine take_ (i := 13) (N := some 105) (v := ?_) (a' := ?_) (zb 14 15) rfl rfl (take_ofW HT_.out HW_.out (by kernel_rfl)) (fun _ _ _ h => h) (Or.inl ⟨by rfl, ?_⟩) hHeld ?_ ?_
        rotate_left
        · rintro w' ⟨s0, s1, s2, s3, s4⟩
          go_simp
          with_reducible rfl
        rotate_left; focus (simp only [Act.put, z1, z2, z3, i64_w, i32_w]; rfl)
        refine pure_ (i := 14) (N := some 106) (v := ?_) (a' := ?_) (zb 15 14) rfl rfl (any_of HT_.out (by kernel_rfl)) (fun _ _ _ h => h) (Or.inl ⟨by rfl, ?_⟩) ?_ ?_
        rotate_left; focus (intro w'; go_simp; with_reducible rfl)
        rotate_left; focus (simp only [Act.put, z1, z2, z3, i64_w, i32_w]; rfl)
        refine pure_ (i := 15) (N := some 107) (v := ?_) (a' := ?_) (zb 16 13) rfl rfl (any_of HT_.out (by kernel_rfl)) (fun _ _ _ h => h) (Or.inl ⟨by rfl, ?_⟩) ?_ ?_
        rotate_left; focus (intro w'; go_simp; with_reducible rfl)
        rotate_left; focus (simp only [Act.put, z1, z2, z3, i64_w, i32_w]; rfl)
        refine pure_ (i := 16) (N := some 108) (v := ?_) (a' := ?_) (zb 17 12) rfl rfl (any_of HT_.out (by kernel_rfl)) (fun _ _ _ h => h) (Or.inl ⟨by rfl, ?_⟩) ?_ ?_
        rotate_left; focus (intro w'; go_simp; with_reducible rfl)
        rotate_left; focus (simp only [Act.put, z1, z2, z3, i64_w, i32_w]; rfl)
        refine pure_ (i := 17) (N := some 109) (v := ?_) (a' := ?_) (zb 18 11) rfl rfl (any_of HT_.out (by kernel_rfl)) (fun _ _ _ h => h) (Or.inl ⟨by rfl, ?_⟩) ?_ ?_
        rotate_left; focus (intro w'; go_simp; with_reducible rfl)
        rotate_left; focus (simp only [Act.put, z1, z2, z3, i64_w, i32_w]; rfl)
        refine pure_ (i := 18) (N := some 110) (v := undef) (a' := ?_) (zb 19 10) rfl rfl (any_of HT_.out (by kernel_rfl)) (fun _ _ _ h => h) (Or.inr ⟨by rfl, rfl⟩) ?_ ?_
        rotate_left; focus (simp only [Act.put, z1, z2, z3, i64_w, i32_w]; rfl)
        refine pure_ (i := 19) (N := some 111) (v := undef) (a' := ?_) (zb 20 9) rfl rfl (any_of HT_.out (by kernel_rfl)) (fun _ _ _ h => h) (Or.inr ⟨by rfl, rfl⟩) ?_ ?_
        rotate_left; focus (simp only [Act.put, z1, z2, z3, i64_w, i32_w]; rfl)
        refine pure_ (i := 20) (N := some 112) (v := undef) (a' := ?_) (zb 21 8) rfl rfl (any_of HT_.out (by kernel_rfl)) (fun _ _ _ h => h) (Or.inr ⟨by rfl, rfl⟩) ?_ ?_
        rotate_left; focus (simp only [Act.put, z1, z2, z3, i64_w, i32_w]; rfl)
        refine pure_ (i := 21) (N := some 113) (v := undef) (a' := ?_) (zb 22 7) rfl rfl (any_of HT_.out (by kernel_rfl)) (fun _ _ _ h => h) (Or.inr ⟨by rfl, rfl⟩) ?_ ?_
        rotate_left; focus (simp only [Act.put, z1, z2, z3, i64_w, i32_w]; rfl)
        refine pure_ (i := 22) (N := some 114) (v := undef) (a' := ?_) (zb 23 6) rfl rfl (any_of HT_.out (by kernel_rfl)) (fun _ _ _ h => h) (Or.inr ⟨by rfl, rfl⟩) ?_ ?_
        rotate_left; focus (simp only [Act.put, z1, z2, z3, i64_w, i32_w]; rfl)
        refine pure_ (i := 23) (N := some 115) (v := undef) (a' := ?_) (zb 24 5) rfl rfl (any_of HT_.out (by kernel_rfl)) (fun _ _ _ h => h) (Or.inr ⟨by rfl, rfl⟩) ?_ ?_
        rotate_left; focus (simp only [Act.put, z1, z2, z3, i64_w, i32_w]; rfl)
        refine pure_ (i := 24) (N := some 116) (v := undef) (a' := ?_) (zb 25 4) rfl rfl (any_of HT_.out (by kernel_rfl)) (fun _ _ _ h => h) (Or.inr ⟨by rfl, rfl⟩) ?_ ?_
        rotate_left; focus (simp only [Act.put, z1, z2, z3, i64_w, i32_w]; rfl)
        refine pure_ (i := 25) (N := some 117) (v := undef) (a' := ?_) (zb 26 3) rfl rfl (any_of HT_.out (by kernel_rfl)) (fun _ _ _ h => h) (Or.inr ⟨by rfl, rfl⟩) ?_ ?_
        rotate_left; focus (simp only [Act.put, z1, z2, z3, i64_w, i32_w]; rfl)
        refine pure_ (i := 26) (N := some 118) (v := undef) (a' := ?_) (zb 27 2) rfl rfl (any_of HT_.out (by kernel_rfl)) (fun _ _ _ h => h) (Or.inr ⟨by rfl, rfl⟩) ?_ ?_
        rotate_left; focus (simp only [Act.put, z1, z2, z3, i64_w, i32_w]; rfl)
        refine pure_ (i := 27) (N := some 119) (v := undef) (a' := ?_) (zb 28 1) rfl rfl (any_of HT_.out (by kernel_rfl)) (fun _ _ _ h => h) (Or.inr ⟨by rfl, rfl⟩) ?_ ?_
        rotate_left; focus (simp only [Act.put, z1, z2, z3, i64_w, i32_w]; rfl)
        refine pure_ (i := 28) (N := some 120) (v := ?_) (a' := ?_) (zb 29 0) rfl rfl (any_of HT_.out (by kernel_rfl)) (fun _ _ _ h => h) (Or.inl ⟨by rfl, ?_⟩) ?_ ?_
        rotate_left; focus (intro w'; go_simp; with_reducible rfl)
        rotate_left; focus (simp only [Act.put, z1, z2, z3, i64_w, i32_w]; rfl)
        refine done_ (done_of HT_.out (by kernel_rfl)) ?_
        try go_wp2
        go_meet
        case rel => exact ⟨_, (false), (by first | rfl | (simp; done) | (simp [*]; done)), H', ⟨by have := HK1.out; have := HJ16.out; have := HK3.out; have := HK4.out; first | omega | exact Nat.le_refl _⟩, ⟨by (with_reducible repeat (first | refine blk_drewN ?_ _ | refine blk_drew ?_ | refine blk_alloc ?_ _)); exact BK285.out⟩, ⟨by (with_reducible repeat (first | refine blk_drewN ?_ _ | refine blk_drew ?_ | refine blk_alloc ?_ _)); exact BK288.out⟩, ⟨by (with_reducible repeat (first | refine blk_drewN ?_ _ | refine blk_drew ?_ | refine blk_alloc ?_ _)); exact BK300.out⟩, ⟨by repeat (first | (with_reducible first | exact HB.out | apply below_alloc | apply pw_below_drewN | apply below_drew1 | refine below_set ?_ GE285.out | refine below_set ?_ GE288.out | refine below_set ?_ GE300.out) | exact HB.out)⟩⟩
      rw [if_pos c67] at H
      have c67b0 : decide (((rd_T47 l2 x28_1).f1) < (wrap64 (((rd_T47 y295 x87_4).f1) + (rd l1 x87_4)))) = true := decide_eq_true c67
      clear c67
      by_cases c68 : 0 ≤ x28_1
      rotate_left
      · rw [if_neg c68] at H
        exact absurd H (by simp)
      rw [if_pos c68] at H
      have c68b0 : decide (0 ≤ x28_1) = true := decide_eq_true c68
      clear c68
      by_cases c69 : x28_1 < (l1.length : Int)
      rotate_left
      · rw [if_neg c69] at H
        exact absurd H (by simp)
      rw [if_pos c69] at H
      have c69b0 : decide (x28_1 < (l1.length : Int)) = true := decide_eq_true c69
      clear c69
      have H' := Aside0.mk H
      clear H
      try go_wp2
      have n0_ : Aside0 (((w61.setCell ⟨gb300, 0, none⟩ (.int .i64 ((rd_T47 y295 x87_4).f0))).setCell ⟨gb300, 1, none⟩ (.int .i64 ((rd_T47 y295 x87_4).f1))).heap[gb285]? = some (.cells #[.int .i64 a0_0, .int .i64 a0_1, .int .i64 a0_2, .slice A0_3 l0_3.length c0_3, .slice A0_4 l0_4.length c0_4, .slice A0_5 l0_5.length c0_5] 57 (0, 0))) := ⟨by (with_reducible repeat (first | refine blk_drewN ?_ _ | refine blk_drew ?_ | refine blk_alloc ?_ _)); refine blk_far ?_ NB285_300.out _; (with_reducible repeat (first | refine blk_drewN ?_ _ | refine blk_drew ?_ | refine blk_alloc ?_ _)); refine blk_far ?_ NB285_300.out _; (with_reducible repeat (first | refine blk_drewN ?_ _ | refine blk_drew ?_ | refine blk_alloc ?_ _)); exact BK285.out⟩
      have n1_ : Aside0 (((w61.setCell ⟨gb300, 0, none⟩ (.int .i64 ((rd_T47 y295 x87_4).f0))).setCell ⟨gb300, 1, none⟩ (.int .i64 ((rd_T47 y295 x87_4).f1))).heap[gb288]? = some (.cells #[.int .i64 ((rd_T47 l2 x28_1).f0), .int .i64 ((rd_T47 l2 x28_1).f1)] 47 (0, 0))) := ⟨by (with_reducible repeat (first | refine blk_drewN ?_ _ | refine blk_drew ?_ | refine blk_alloc ?_ _)); refine blk_far ?_ NB288_300.out _; (with_reducible repeat (first | refine blk_drewN ?_ _ | refine blk_drew ?_ | refine blk_alloc ?_ _)); refine blk_far ?_ NB288_300.out _; (with_reducible repeat (first | refine blk_drewN ?_ _ | refine blk_drew ?_ | refine blk_alloc ?_ _)); exact BK288.out⟩
      have n2_ : Aside0 (((w61.setCell ⟨gb300, 0, none⟩ (.int .i64 ((rd_T47 y295 x87_4).f0))).setCell ⟨gb300, 1, none⟩ (.int .i64 ((rd_T47 y295 x87_4).f1))).heap[gb300]? = some (.cells #[.int .i64 ((rd_T47 y295 x87_4).f0), .int .i64 ((rd_T47 y295 x87_4).f1)] 47 (0, 0))) := ⟨by (with_reducible repeat (first | refine blk_drewN ?_ _ | refine blk_drew ?_ | refine blk_alloc ?_ _)); refine blk_put (cs := #[.int .i64 ((rd_T47 y295 x87_4).f0), .int .i64 0]) ?_ 1 _ rfl; (with_reducible repeat (first | refine blk_drewN ?_ _ | refine blk_drew ?_ | refine blk_alloc ?_ _)); refine blk_put (cs := #[.int .i64 0, .int .i64 0]) ?_ 0 _ rfl; (with_reducible repeat (first | refine blk_drewN ?_ _ | refine blk_drew ?_ | refine blk_alloc ?_ _)); exact BK300.out⟩
      have n3_ : Aside0 (Below w.heap.size w ((w61.setCell ⟨gb300, 0, none⟩ (.int .i64 ((rd_T47 y295 x87_4).f0))).setCell ⟨gb300, 1, none⟩ (.int .i64 ((rd_T47 y295 x87_4).f1)))) := ⟨by repeat (first | (with_reducible first | exact HB.out | apply below_alloc | apply pw_below_drewN | apply below_drew1 | refine below_set ?_ GE285.out | refine below_set ?_ GE288.out | refine below_set ?_ GE300.out) | exact HB.out)⟩
      (try clear BK285)
      (try clear BK288)
      (try clear BK300)
      (try clear HB)
      generalize ((w61.setCell ⟨gb300, 0, none⟩ (.int .i64 ((rd_T47 y295 x87_4).f0))).setCell ⟨gb300, 1, none⟩ (.int .i64 ((rd_T47 y295 x87_4).f1))) = w70 at n0_ n1_ n2_ n3_ ⊢
      have BK285 := n0_
      have BK288 := n1_
      have BK300 := n2_
      have HB := n3_
      clear n0_ n1_ n2_ n3_
      have n0_ := Aside0.mk (blk_drew BK285.out)
      have n1_ := Aside0.mk (blk_drew BK288.out)
      have n2_ := Aside0.mk (blk_drew BK300.out)
      have n3_ := Aside0.mk (below_drew1 HB.out)
      clear BK285
      clear BK288
      clear BK300
      clear HB
      have BK285 := n0_
      have BK288 := n1_
      have BK300 := n2_
      have HB := n3_
      clear n0_ n1_ n2_ n3_
      have p301 : 0 ≤ (x87_4 : Int) := of_decide_eq_true (by first | (with_reducible assumption) | assumption)
      have q301 : x87_4 < (l1.length : Int) := of_decide_eq_true (by first | (with_reducible assumption) | assumption)
      obtain ⟨ad301, e301, hx301_0⟩ := Kd.at_int HR1.out x87_4 p301 q301
      have hw301_0 := hx301_0
      obtain rfl : ad293 = ad301 := (by injection e301)
      replace hx301_0 := (HB.out.cell (World.block_lt_of_cell? w _ hx301_0)).trans hx301_0
      replace p301 := eq_true p301
      replace q301 := eq_true q301
      have p302 : 0 ≤ (x28_1 : Int) := of_decide_eq_true (by first | (with_reducible assumption) | assumption)
      have q302 : x28_1 < (l1.length : Int) := of_decide_eq_true (by first | (with_reducible assumption) | assumption)
      obtain ⟨ad302, e302, hx302_0⟩ := Kd.at_int HR1.out x28_1 p302 q302
      have hw302_0 := hx302_0
      obtain rfl : ad293 = ad302 := (by injection e302)
      replace hx302_0 := (HB.out.cell (World.block_lt_of_cell? w _ hx302_0)).trans hx302_0
      replace p302 := eq_true p302
      replace q302 := eq_true q302
      refine start_ (n := 29) (S := fun w' => w'.cell? ⟨gb288, 0, none⟩ = some (.int .i64 ((rd_T47 l2 x28_1).f0)) ∧ w'.cell? ⟨gb288, 1, none⟩ = some (.int .i64 ((rd_T47 l2 x28_1).f1)) ∧ w'.cell? ⟨gb300, 0, none⟩ = some (.int .i64 ((rd_T47 y295 x87_4).f0)) ∧ w'.cell? ⟨gb300, 1, none⟩ = some (.int .i64 ((rd_T47 y295 x87_4).f1)) ∧ w'.cell? (ad293.add (x87_4).toNat) = some (.int .i64 (rd l1 x87_4)) ∧ w'.cell? (ad293.add (x28_1).toNat) = some (.int .i64 (rd l1 x28_1))) (ds := []) (zb 0 29) (by kernel_rfl) rfl rfl ⟨(blk_cell BK288.out 0).trans rfl, (blk_cell BK288.out 1).trans rfl, (blk_cell BK300.out 0).trans rfl, (blk_cell BK300.out 1).trans rfl, ((HB.out.cell (World.block_lt_of_cell? w _ hw301_0)).trans hw301_0), ((HB.out.cell (World.block_lt_of_cell? w _ hw302_0)).trans hw302_0)⟩ (fun hHeld => ?_); refine with_tabW maskref4_SitesFault.tab21 maskref4_SitesFault.bits21 (fun HT_ HW_ => ?_)
      generalize w70.drew = w71 at BK285 BK288 BK300 HB hx301_0 hx302_0 hHeld ⊢
      refine pure_ (i := 0) (N := some 92) (v := ?_) (a' := ?_) (zb 1 28) rfl rfl (any_of HT_.out (by kernel_rfl)) (fun _ _ _ h => h) (Or.inl ⟨by rfl, ?_⟩) ?_ ?_
      rotate_left; focus (intro w'; go_simp; with_reducible rfl)
      rotate_left; focus (simp only [Act.put, z1, z2, z3, i64_w, i32_w]; rfl)
      refine pure_ (i := 2) (N := some 94) (v := ?_) (a' := ?_) #[true,false,true,false,false,false,false,false,false,false,false,false,false,false,false,false,false,false,false,false,false,false,false,false,false,false,false,false,false] rfl rfl (any_of HT_.out (by kernel_rfl)) (fun _ _ _ h => h) (Or.inl ⟨by rfl, ?_⟩) ?_ ?_
      rotate_left; focus (intro w'; go_simp; with_reducible rfl)
      rotate_left; focus (simp only [Act.put, z1, z2, z3, i64_w, i32_w]; rfl)
      refine take_ (i := 1) (N := some 93) (v := ?_) (a' := ?_) (zb 3 26) rfl rfl (take_ofW HT_.out HW_.out (by kernel_rfl)) (fun _ _ _ h => h) (Or.inl ⟨by rfl, ?_⟩) hHeld ?_ ?_
      rotate_left
      · rintro w' ⟨s0, s1, s2, s3, s4, s5⟩
        go_simp
        with_reducible rfl
      rotate_left; focus (simp only [Act.put, z1, z2, z3, i64_w, i32_w]; rfl)
      refine take_ (i := 3) (N := some 95) (v := ?_) (a' := ?_) (zb 4 25) rfl rfl (take_ofW HT_.out HW_.out (by kernel_rfl)) (fun _ _ _ h => h) (Or.inl ⟨by rfl, ?_⟩) hHeld ?_ ?_
      rotate_left
      · rintro w' ⟨s0, s1, s2, s3, s4, s5⟩
        go_simp
        with_reducible rfl
      rotate_left; focus (simp only [Act.put, z1, z2, z3, i64_w, i32_w]; rfl)
      refine pure_ (i := 4) (N := some 96) (v := ?_) (a' := ?_) (zb 5 24) rfl rfl (any_of HT_.out (by kernel_rfl)) (fun _ _ _ h => h) (Or.inl ⟨by rfl, ?_⟩) ?_ ?_
      rotate_left; focus (intro w'; go_simp; with_reducible rfl)
      rotate_left; focus (simp only [Act.put, z1, z2, z3, i64_w, i32_w]; rfl)
      refine pure_ (i := 5) (N := some 97) (v := ?_) (a' := ?_) (zb 6 23) rfl rfl (any_of HT_.out (by kernel_rfl)) (fun _ _ _ h => h) (Or.inl ⟨by rfl, ?_⟩) ?_ ?_
      rotate_left; focus (intro w'; go_simp; with_reducible rfl)
      rotate_left; focus (simp only [Act.put, z1, z2, z3, i64_w, i32_w]; rfl)
      refine pure_ (i := 6) (N := some 98) (v := ?_) (a' := ?_) (zb 7 22) rfl rfl (any_of HT_.out (by kernel_rfl)) (fun _ _ _ h => h) (Or.inl ⟨by rfl, ?_⟩) ?_ ?_
      rotate_left; focus (intro w'; go_simp; with_reducible rfl)
      rotate_left; focus (simp only [Act.put, z1, z2, z3, i64_w, i32_w]; rfl)
      refine pure_ (i := 8) (N := some 100) (v := ?_) (a' := ?_) #[true,true,true,true,true,true,true,false,true,false,false,false,false,false,false,false,false,false,false,false,false,false,false,false,false,false,false,false,false] rfl rfl (any_of HT_.out (by kernel_rfl)) (fun _ _ _ h => h) (Or.inl ⟨by rfl, ?_⟩) ?_ ?_
      rotate_left; focus (intro w'; go_simp; with_reducible rfl)
      rotate_left; focus (simp only [Act.put, z1, z2, z3, i64_w, i32_w]; rfl)
      refine pure_ (i := 10) (N := some 102) (v := ?_) (a' := ?_) #[true,true,true,true,true,true,true,false,true,false,true,false,false,false,false,false,false,false,false,false,false,false,false,false,false,false,false,false,false] rfl rfl (any_of HT_.out (by kernel_rfl)) (fun _ _ _ h => h) (Or.inl ⟨by rfl, ?_⟩) ?_ ?_
      rotate_left; focus (intro w'; go_simp; with_reducible rfl)
      rotate_left; focus (simp only [Act.put, z1, z2, z3, i64_w, i32_w]; rfl)
      refine pure_ (i := 11) (N := some 103) (v := ?_) (a' := ?_) #[true,true,true,true,true,true,true,false,true,false,true,true,false,false,false,false,false,false,false,false,false,false,false,false,false,false,false,false,false] rfl rfl (any_of HT_.out (by kernel_rfl)) (fun _ _ _ h => h) (Or.inl ⟨by rfl, ?_⟩) ?_ ?_
      rotate_left; focus (intro w'; go_simp; with_reducible rfl)
      rotate_left; focus (simp only [Act.put, z1, z2, z3, i64_w, i32_w]; rfl)
      refine pure_ (i := 12) (N := some 104) (v := ?_) (a' := ?_) #[true,true,true,true,true,true,true,false,true,false,true,true,true,false,false,false,false,false,false,false,false,false,false,false,false,false,false,false,false] rfl rfl (any_of HT_.out (by kernel_rfl)) (fun _ _ _ h => h) (Or.inl ⟨by rfl, ?_⟩) ?_ ?_
      rotate_left; focus (intro w'; go_simp; with_reducible rfl)
      rotate_left; focus (simp only [Act.put, z1, z2, z3, i64_w, i32_w]; rfl)
      refine take_ (i := 7) (N := some 99) (v := ?_) (a' := ?_) #[true,true,true,true,true,true,true,true,true,false,true,true,true,false,false,false,false,false,false,false,false,false,false,false,false,false,false,false,false] rfl rfl (take_ofW HT_.out HW_.out (by kernel_rfl)) (fun _ _ _ h => h) (Or.inl ⟨by rfl, ?_⟩) hHeld ?_ ?_
      rotate_left
      · rintro w' ⟨s0, s1, s2, s3, s4, s5⟩
        go_simp
        with_reducible rfl
      rotate_left; focus (simp only [Act.put, z1, z2, z3, i64_w, i32_w]; rfl)
      refine take_ (i := 9) (N := some 101) (v := ?_) (a' := ?_) (zb 13 16) rfl rfl (take_ofW HT_.out HW_.out (by kernel_rfl)) (fun _ _ _ h => h) (Or.inl ⟨by rfl, ?_⟩) hHeld ?_ ?_
      rotate_left
      · rintro w' ⟨s0, s1, s2, s3, s4, s5⟩
        go_simp
        with_reducible rfl
      rotate_left; focus (simp only [Act.put, z1, z2, z3, i64_w, i32_w]; rfl)
      refine take_ (i := 13) (N := some 105) (v := ?_) (a' := ?_) (zb 14 15) rfl rfl (take_ofW HT_.out HW_.out (by kernel_rfl)) (fun _ _ _ h => h) (Or.inl ⟨by rfl, ?_⟩) hHeld ?_ ?_
      rotate_left
      · rintro w' ⟨s0, s1, s2, s3, s4, s5⟩
        go_simp
        with_reducible rfl
      rotate_left; focus (simp only [Act.put, z1, z2, z3, i64_w, i32_w]; rfl)
      refine pure_ (i := 14) (N := some 106) (v := ?_) (a' := ?_) (zb 15 14) rfl rfl (any_of HT_.out (by kernel_rfl)) (fun _ _ _ h => h) (Or.inl ⟨by rfl, ?_⟩) ?_ ?_
      rotate_left; focus (intro w'; go_simp; with_reducible rfl)
      rotate_left; focus (simp only [Act.put, z1, z2, z3, i64_w, i32_w]; rfl)
      refine pure_ (i := 15) (N := some 107) (v := ?_) (a' := ?_) (zb 16 13) rfl rfl (any_of HT_.out (by kernel_rfl)) (fun _ _ _ h => h) (Or.inl ⟨by rfl, ?_⟩) ?_ ?_
      rotate_left; focus (intro w'; go_simp; with_reducible rfl)
      rotate_left; focus (simp only [Act.put, z1, z2, z3, i64_w, i32_w]; rfl)
      refine pure_ (i := 16) (N := some 108) (v := ?_) (a' := ?_) (zb 17 12) rfl rfl (any_of HT_.out (by kernel_rfl)) (fun _ _ _ h => h) (Or.inl ⟨by rfl, ?_⟩) ?_ ?_
      rotate_left; focus (intro w'; go_simp; with_reducible rfl)
      rotate_left; focus (simp only [Act.put, z1, z2, z3, i64_w, i32_w]; rfl)
      refine pure_ (i := 17) (N := some 109) (v := ?_) (a' := ?_) (zb 18 11) rfl rfl (any_of HT_.out (by kernel_rfl)) (fun _ _ _ h => h) (Or.inl ⟨by rfl, ?_⟩) ?_ ?_
      rotate_left; focus (intro w'; go_simp; with_reducible rfl)
      rotate_left; focus (simp only [Act.put, z1, z2, z3, i64_w, i32_w]; rfl)
      refine pure_ (i := 18) (N := some 110) (v := ?_) (a' := ?_) (zb 19 10) rfl rfl (any_of HT_.out (by kernel_rfl)) (fun _ _ _ h => h) (Or.inl ⟨by rfl, ?_⟩) ?_ ?_
      rotate_left; focus (intro w'; go_simp; with_reducible rfl)
      rotate_left; focus (simp only [Act.put, z1, z2, z3, i64_w, i32_w]; rfl)
      refine pure_ (i := 20) (N := some 112) (v := ?_) (a' := ?_) #[true,true,true,true,true,true,true,true,true,true,true,true,true,true,true,true,true,true,true,false,true,false,false,false,false,false,false,false,false] rfl rfl (any_of HT_.out (by kernel_rfl)) (fun _ _ _ h => h) (Or.inl ⟨by rfl, ?_⟩) ?_ ?_
      rotate_left; focus (intro w'; go_simp; with_reducible rfl)
      rotate_left; focus (simp only [Act.put, z1, z2, z3, i64_w, i32_w]; rfl)
      refine pure_ (i := 22) (N := some 114) (v := ?_) (a' := ?_) #[true,true,true,true,true,true,true,true,true,true,true,true,true,true,true,true,true,true,true,false,true,false,true,false,false,false,false,false,false] rfl rfl (any_of HT_.out (by kernel_rfl)) (fun _ _ _ h => h) (Or.inl ⟨by rfl, ?_⟩) ?_ ?_
      rotate_left; focus (intro w'; go_simp; with_reducible rfl)
      rotate_left; focus (simp only [Act.put, z1, z2, z3, i64_w, i32_w]; rfl)
      refine pure_ (i := 23) (N := some 115) (v := ?_) (a' := ?_) #[true,true,true,true,true,true,true,true,true,true,true,true,true,true,true,true,true,true,true,false,true,false,true,true,false,false,false,false,false] rfl rfl (any_of HT_.out (by kernel_rfl)) (fun _ _ _ h => h) (Or.inl ⟨by rfl, ?_⟩) ?_ ?_
      rotate_left; focus (intro w'; go_simp; with_reducible rfl)
      rotate_left; focus (simp only [Act.put, z1, z2, z3, i64_w, i32_w]; rfl)
      refine pure_ (i := 24) (N := some 116) (v := ?_) (a' := ?_) #[true,true,true,true,true,true,true,true,true,true,true,true,true,true,true,true,true,true,true,false,true,false,true,true,true,false,false,false,false] rfl rfl (any_of HT_.out (by kernel_rfl)) (fun _ _ _ h => h) (Or.inl ⟨by rfl, ?_⟩) ?_ ?_
      rotate_left; focus (intro w'; go_simp; with_reducible rfl)
      rotate_left; focus (simp only [Act.put, z1, z2, z3, i64_w, i32_w]; rfl)
      refine take_ (i := 19) (N := some 111) (v := ?_) (a' := ?_) #[true,true,true,true,true,true,true,true,true,true,true,true,true,true,true,true,true,true,true,true,true,false,true,true,true,false,false,false,false] rfl rfl (take_ofW HT_.out HW_.out (by kernel_rfl)) (fun _ _ _ h => h) (Or.inl ⟨by rfl, ?_⟩) hHeld ?_ ?_
      rotate_left
      · rintro w' ⟨s0, s1, s2, s3, s4, s5⟩
        go_simp
        with_reducible rfl
      rotate_left; focus (simp only [Act.put, z1, z2, z3, i64_w, i32_w]; rfl)
      refine take_ (i := 21) (N := some 113) (v := ?_) (a' := ?_) (zb 25 4) rfl rfl (take_ofW HT_.out HW_.out (by kernel_rfl)) (fun _ _ _ h => h) (Or.inl ⟨by rfl, ?_⟩) hHeld ?_ ?_
      rotate_left
      · rintro w' ⟨s0, s1, s2, s3, s4, s5⟩
        go_simp
        with_reducible rfl
      rotate_left; focus (simp only [Act.put, z1, z2, z3, i64_w, i32_w]; rfl)
      refine take_ (i := 25) (N := some 117) (v := ?_) (a' := ?_) (zb 26 3) rfl rfl (take_ofW HT_.out HW_.out (by kernel_rfl)) (fun _ _ _ h => h) (Or.inl ⟨by rfl, ?_⟩) hHeld ?_ ?_
      rotate_left
      · rintro w' ⟨s0, s1, s2, s3, s4, s5⟩
        go_simp
        with_reducible rfl
      rotate_left; focus (simp only [Act.put, z1, z2, z3, i64_w, i32_w]; rfl)
      refine pure_ (i := 26) (N := some 118) (v := ?_) (a' := ?_) (zb 27 2) rfl rfl (any_of HT_.out (by kernel_rfl)) (fun _ _ _ h => h) (Or.inl ⟨by rfl, ?_⟩) ?_ ?_
      rotate_left; focus (intro w'; go_simp; with_reducible rfl)
      rotate_left; focus (simp only [Act.put, z1, z2, z3, i64_w, i32_w]; rfl)
      refine pure_ (i := 27) (N := some 119) (v := ?_) (a' := ?_) (zb 28 1) rfl rfl (any_of HT_.out (by kernel_rfl)) (fun _ _ _ h => h) (Or.inl ⟨by rfl, ?_⟩) ?_ ?_
      rotate_left; focus (intro w'; go_simp; with_reducible rfl)
      rotate_left; focus (simp only [Act.put, z1, z2, z3, i64_w, i32_w]; rfl)
      refine pure_ (i := 28) (N := some 120) (v := ?_) (a' := ?_) (zb 29 0) rfl rfl (any_of HT_.out (by kernel_rfl)) (fun _ _ _ h => h) (Or.inl ⟨by rfl, ?_⟩) ?_ ?_
      rotate_left; focus (intro w'; go_simp; with_reducible rfl)
      rotate_left; focus (simp only [Act.put, z1, z2, z3, i64_w, i32_w]; rfl)
      refine done_ (done_of HT_.out (by kernel_rfl)) ?_
      try go_wp2
      go_meet
      case rel => exact ⟨_, (decide (((rd_T47 y295 x87_4).f1) < (wrap64 (((rd_T47 l2 x28_1).f1) + (rd l1 x28_1))))), (by first | rfl | (simp; done) | (simp [*]; done)), H', ⟨by have := HK1.out; have := HJ16.out; have := HK3.out; have := HK4.out; first | omega | exact Nat.le_refl _⟩, ⟨by (with_reducible repeat (first | refine blk_drewN ?_ _ | refine blk_drew ?_ | refine blk_alloc ?_ _)); exact BK285.out⟩, ⟨by (with_reducible repeat (first | refine blk_drewN ?_ _ | refine blk_drew ?_ | refine blk_alloc ?_ _)); exact BK288.out⟩, ⟨by (with_reducible repeat (first | refine blk_drewN ?_ _ | refine blk_drew ?_ | refine blk_alloc ?_ _)); exact BK300.out⟩, ⟨by repeat (first | (with_reducible first | exact HB.out | apply below_alloc | apply pw_below_drewN | apply below_drew1 | refine below_set ?_ GE285.out | refine below_set ?_ GE288.out | refine below_set ?_ GE300.out) | exact HB.out)⟩⟩
     clear HC60
     obtain ⟨kq, x120_59, rfl, HA, HJ59, BK285, BK288, BK300, HB⟩ := hcut
     cases kq with
     | zero => exact absurd HA.out (by simp [maskref4_SitesFault.j4])
     | succ kj59 =>
      have H := HA.out
      clear HA
      simp only [maskref4_SitesFault.j4] at H
      by_cases c76 : x120_59 = true
      · subst c76
        have H1 : (some 15) = some r := by rw [if_pos rfl] at H; exact H
        clear H
        have H := H1
        clear H1
        obtain rfl := Option.some.inj H
        go_wp2
        go_ret
        exact ⟨by first | rfl | (simp [errW_none, errW_some] <;> rfl) | (simp [*, errW_none, errW_some] <;> rfl), by repeat (first | (with_reducible first | exact HB.out | apply below_alloc | apply pw_below_drewN | apply below_drew1 | refine below_set ?_ GE285.out | refine below_set ?_ GE288.out | refine below_set ?_ GE300.out) | exact HB.out)⟩
      replace c76 := Bool.eq_false_iff.mpr c76
      subst c76
      have H1 : (maskref4_SitesFault.l2 kj59 l1 l2 x28_1 l2 (l2.length : Int) x28_1 y295 (y295.length : Int) (wrap64 (x87_4 + 1)) a0_0 a0_1 a0_2 l0_3 l0_4 l0_5 ((rd_T47 l2 x28_1).f0) ((rd_T47 l2 x28_1).f1)) = some r := by rw [if_neg (show ¬ (false = true) by decide)] at H; exact H
      clear H
      have H := H1
      clear H1
      have H' := Aside0.mk H
      clear H
      go_wp2
      go_roundg kj59
      case measure => have := HK1.out; have := HJ16.out; have := HK3.out; have := HK4.out; have := HJ59.out; omega
      case rel => exact ⟨(wrap64 (x87_4 + 1)), (by first | rfl | (simp; done) | (simp [*]; done)), H', ⟨by have := HK1.out; have := HJ16.out; have := HK3.out; have := HK4.out; have := HJ59.out; omega⟩, ⟨by (with_reducible repeat (first | refine blk_drewN ?_ _ | refine blk_drew ?_ | refine blk_alloc ?_ _)); exact BK285.out⟩, ⟨by (with_reducible repeat (first | refine blk_drewN ?_ _ | refine blk_drew ?_ | refine blk_alloc ?_ _)); exact BK288.out⟩, ⟨by repeat (first | (with_reducible first | exact HB.out | apply below_alloc | apply pw_below_drewN | apply below_drew1 | refine below_set ?_ GE285.out | refine below_set ?_ GE288.out | refine below_set ?_ GE300.out) | exact HB.out)⟩⟩

end Go.Proofs.Ytgajgnemfccnhaa.PL
