-- PRINTED by print.py (a twelfth state) out of the translation. Not trusted: Lean checks it.
import Derived.Test.YtgajgnemfccnhaaPAx0
import Derived.Test.YtgajgnemfccnhaaPAx23
import Derived.Test.YtgajgnemfccnhaaPAx24
import Derived.Test.YtgajgnemfccnhaaPAx25
namespace Go.Proofs.Ytgajgnemfccnhaa.PA
open Go.RowKit Go.Proofs.YtgajgnemfccnhaaW.PrintWords Go.Proofs.YtgajgnemfccnhaaW.PrintLast Go.Proofs.YtgajgnemfccnhaaW.PrintMore
attribute [local go_sem] max2_int min2_int max_two min_two max_three min_three max_four min_four   -- for this text's walks alone
set_option linter.unusedVariables false
set_option linter.unusedSimpArgs false

/-! ### floor_checkPort: function 50 -/
mutual
def floor_checkPort.j1 : Nat → Int → Int → Int → Int → List (S98) → List (S100) → List (S96) → ByteArray → Bool → Int → Int → Option (Int)
 | 0, _, _, _, _, _, _, _, _, _, _, _ => none
 | k + 1, x1, x175000, x175001, x175002, x175003, x175004, x175005, x177000, x177001, x177002, x177003 => if 0 ≤ x1 then (if x1 ≤ (x175005.length : Int) then ((some (x175005.take (x1 : Int).toNat : List (S96))).bind fun y182 => (floor_checkPort.l0 k y182 (y182.length : Int) 0 x175000 x175001 x175002 x175003 x175004 x175005 x177000 x177001 x177002 x177003)) else (none)) else (none)
def floor_checkPort.l0 : Nat → List (S96) → Int → Int → Int → Int → Int → List (S98) → List (S100) → List (S96) → ByteArray → Bool → Int → Int → Option (Int)
 | 0, _, _, _, _, _, _, _, _, _, _, _, _, _ => none
 | k + 1, x77, x78, x79, x175000, x175001, x175002, x175003, x175004, x175005, x177000, x177001, x177002, x177003 => if x79 < x78 then (if 0 ≤ x79 then (if x79 < (x77.length : Int) then (if ((rd_T96 x77 x79).f0).toList = x177000.toList then (floor_checkPort.j3 k x77 x78 x79 (((rd_T96 x77 x79).f1) == x177001) x175000 x175001 x175002 x175003 x175004 x175005 x177000 x177001 x177002 x177003 ((rd_T96 x77 x79).f0) ((rd_T96 x77 x79).f1) ((rd_T96 x77 x79).f2) ((rd_T96 x77 x79).f3)) else (floor_checkPort.j3 k x77 x78 x79 false x175000 x175001 x175002 x175003 x175004 x175005 x177000 x177001 x177002 x177003 ((rd_T96 x77 x79).f0) ((rd_T96 x77 x79).f1) ((rd_T96 x77 x79).f2) ((rd_T96 x77 x79).f3))) else (none)) else (none)) else (floor_checkPort.l1 k x175004 (x175004.length : Int) 0 x177000 x177001 x177002 x177003)
def floor_checkPort.j3 : Nat → List (S96) → Int → Int → Bool → Int → Int → Int → List (S98) → List (S100) → List (S96) → ByteArray → Bool → Int → Int → ByteArray → Bool → Int → Int → Option (Int)
 | 0, _, _, _, _, _, _, _, _, _, _, _, _, _, _, _, _, _, _ => none
 | k + 1, x77, x78, x79, x94, x175000, x175001, x175002, x175003, x175004, x175005, x177000, x177001, x177002, x177003, x188000, x188001, x188002, x188003 => if x94 = true then (some 6) else (if (mx (mx (mx (wrap64 (x177002 - x188002)) (wrap64 (x188002 - x177002))) (wrap64 (x177003 - x188003))) (wrap64 (x188003 - x177003))) < 2 then (some 15) else (floor_checkPort.l0 k x77 x78 (wrap64 (x79 + 1)) x175000 x175001 x175002 x175003 x175004 x175005 x177000 x177001 x177002 x177003))
def floor_checkPort.l1 : Nat → List (S100) → Int → Int → ByteArray → Bool → Int → Int → Option (Int)
 | 0, _, _, _, _, _, _, _ => none
 | k + 1, x119, x120, x121, x177000, x177001, x177002, x177003 => if x121 < x120 then (if 0 ≤ x121 then (if x121 < (x119.length : Int) then (if ((rd_T100 x119 x121).f0) = 0 then ((floor_within.f x177002 ((rd_T100 x119 x121).f1) ((rd_T100 x119 x121).f3)).bind fun t190 => (if t190 = true then ((floor_within.f x177003 ((rd_T100 x119 x121).f2) ((rd_T100 x119 x121).f4)).bind fun t191 => (if t191 = true then (some 15) else (floor_checkPort.l1 k x119 x120 (wrap64 (x121 + 1)) x177000 x177001 x177002 x177003))) else (floor_checkPort.l1 k x119 x120 (wrap64 (x121 + 1)) x177000 x177001 x177002 x177003))) else (floor_checkPort.l1 k x119 x120 (wrap64 (x121 + 1)) x177000 x177001 x177002 x177003)) else (none)) else (none)) else (some 0)
def floor_checkPort.j0 : Nat → Int → Int → Int → Bool → Int → Int → Int → List (S98) → List (S100) → List (S96) → ByteArray → Bool → Int → Int → Option (Int)
 | 0, _, _, _, _, _, _, _, _, _, _, _, _, _, _ => none
 | k + 1, x1, x6, x7, x27, x175000, x175001, x175002, x175003, x175004, x175005, x177000, x177001, x177002, x177003 => if x27 = true then (some 4) else ((floor_within.f x177002 0 (wrap64 (x6 - 1))).bind fun t180 => (if t180 = true then ((floor_within.f x177003 0 (wrap64 (x7 - 1))).bind fun t181 => (if t181 = true then (if x177002 > 0 then (if x177002 < (wrap64 (x6 - 1)) then (if x177003 > 0 then (if x177003 < (wrap64 (x7 - 1)) then (some 2) else (floor_checkPort.j1 k x1 x175000 x175001 x175002 x175003 x175004 x175005 x177000 x177001 x177002 x177003)) else (floor_checkPort.j1 k x1 x175000 x175001 x175002 x175003 x175004 x175005 x177000 x177001 x177002 x177003)) else (floor_checkPort.j1 k x1 x175000 x175001 x175002 x175003 x175004 x175005 x177000 x177001 x177002 x177003)) else (floor_checkPort.j1 k x1 x175000 x175001 x175002 x175003 x175004 x175005 x177000 x177001 x177002 x177003)) else (some 2))) else (some 2)))
end
def floor_checkPort.f (k : Nat) (a0_0 : Int) (a0_1 : Int) (a0_2 : Int) (l0_3 : List (S98)) (l0_4 : List (S100)) (l0_5 : List (S96)) (a1 : Int) : Option (Int) := if 0 ≤ a1 then (if a1 < (l0_5.length : Int) then ((floor_Size.f a0_0 a0_1 a0_2 l0_3 l0_4 l0_5).bind fun bt177 => ((floor_validName.f k ((rd_T96 l0_5 a1).f0)).bind fun t179 => (if t179 = true then (if ((rd_T96 l0_5 a1).f0).toList = ([] : List UInt8) then (floor_checkPort.j0 k a1 bt177.1 bt177.2 ((rd_T96 l0_5 a1).f1) a0_0 a0_1 a0_2 l0_3 l0_4 l0_5 ((rd_T96 l0_5 a1).f0) ((rd_T96 l0_5 a1).f1) ((rd_T96 l0_5 a1).f2) ((rd_T96 l0_5 a1).f3)) else (floor_checkPort.j0 k a1 bt177.1 bt177.2 false a0_0 a0_1 a0_2 l0_3 l0_4 l0_5 ((rd_T96 l0_5 a1).f0) ((rd_T96 l0_5 a1).f1) ((rd_T96 l0_5 a1).f2) ((rd_T96 l0_5 a1).f3))) else (some 9)))) else (none)) else (none)
theorem floor_checkPort.mono_l : ∀ k, (∀ y0 y1 y2 y3 y4 y5 y6 y7 y8 y9 y10, LeO (floor_checkPort.j1 k y0 y1 y2 y3 y4 y5 y6 y7 y8 y9 y10) (floor_checkPort.j1 (k + 1) y0 y1 y2 y3 y4 y5 y6 y7 y8 y9 y10)) ∧ (∀ y0 y1 y2 y3 y4 y5 y6 y7 y8 y9 y10 y11 y12, LeO (floor_checkPort.l0 k y0 y1 y2 y3 y4 y5 y6 y7 y8 y9 y10 y11 y12) (floor_checkPort.l0 (k + 1) y0 y1 y2 y3 y4 y5 y6 y7 y8 y9 y10 y11 y12)) ∧ (∀ y0 y1 y2 y3 y4 y5 y6 y7 y8 y9 y10 y11 y12 y13 y14 y15 y16 y17, LeO (floor_checkPort.j3 k y0 y1 y2 y3 y4 y5 y6 y7 y8 y9 y10 y11 y12 y13 y14 y15 y16 y17) (floor_checkPort.j3 (k + 1) y0 y1 y2 y3 y4 y5 y6 y7 y8 y9 y10 y11 y12 y13 y14 y15 y16 y17)) ∧ (∀ y0 y1 y2 y3 y4 y5 y6, LeO (floor_checkPort.l1 k y0 y1 y2 y3 y4 y5 y6) (floor_checkPort.l1 (k + 1) y0 y1 y2 y3 y4 y5 y6)) ∧ (∀ y0 y1 y2 y3 y4 y5 y6 y7 y8 y9 y10 y11 y12 y13, LeO (floor_checkPort.j0 k y0 y1 y2 y3 y4 y5 y6 y7 y8 y9 y10 y11 y12 y13) (floor_checkPort.j0 (k + 1) y0 y1 y2 y3 y4 y5 y6 y7 y8 y9 y10 y11 y12 y13))
 | 0 => ⟨fun _ _ _ _ _ _ _ _ _ _ _ r h => by simp [floor_checkPort.j1] at h, fun _ _ _ _ _ _ _ _ _ _ _ _ _ r h => by simp [floor_checkPort.l0] at h, fun _ _ _ _ _ _ _ _ _ _ _ _ _ _ _ _ _ _ r h => by simp [floor_checkPort.j3] at h, fun _ _ _ _ _ _ _ r h => by simp [floor_checkPort.l1] at h, fun _ _ _ _ _ _ _ _ _ _ _ _ _ _ r h => by simp [floor_checkPort.j0] at h⟩
 | k + 1 => by
  obtain ⟨ih0, ih1, ih2, ih3, ih4⟩ := floor_checkPort.mono_l k
  refine ⟨?_, ?_, ?_, ?_, ?_⟩
  · intro y0 y1 y2 y3 y4 y5 y6 y7 y8 y9 y10
    unfold floor_checkPort.j1
    repeat' first
    | (with_reducible exact ih0 _ _ _ _ _ _ _ _ _ _ _)
    | (with_reducible exact ih1 _ _ _ _ _ _ _ _ _ _ _ _ _)
    | (with_reducible exact ih2 _ _ _ _ _ _ _ _ _ _ _ _ _ _ _ _ _ _)
    | (with_reducible exact ih3 _ _ _ _ _ _ _)
    | (with_reducible exact ih4 _ _ _ _ _ _ _ _ _ _ _ _ _ _)
    | (with_reducible exact floor_validName.mono _ _)
    | (with_reducible exact LeO.refl _)
    | (with_reducible exact LeO.none _)
    | (with_reducible refine LeO.ite ?_ ?_)
    | (with_reducible refine LeO.bind ?_ (fun _ => ?_))
    | exact ih0 _ _ _ _ _ _ _ _ _ _ _
    | exact ih1 _ _ _ _ _ _ _ _ _ _ _ _ _
    | exact ih2 _ _ _ _ _ _ _ _ _ _ _ _ _ _ _ _ _ _
    | exact ih3 _ _ _ _ _ _ _
    | exact ih4 _ _ _ _ _ _ _ _ _ _ _ _ _ _
    | exact floor_validName.mono _ _
    | exact LeO.none _
    | refine LeO.ite ?_ ?_
    | refine LeO.bind ?_ (fun _ => ?_)
  · intro y0 y1 y2 y3 y4 y5 y6 y7 y8 y9 y10 y11 y12
    unfold floor_checkPort.l0
    repeat' first
    | (with_reducible exact ih0 _ _ _ _ _ _ _ _ _ _ _)
    | (with_reducible exact ih1 _ _ _ _ _ _ _ _ _ _ _ _ _)
    | (with_reducible exact ih2 _ _ _ _ _ _ _ _ _ _ _ _ _ _ _ _ _ _)
    | (with_reducible exact ih3 _ _ _ _ _ _ _)
    | (with_reducible exact ih4 _ _ _ _ _ _ _ _ _ _ _ _ _ _)
    | (with_reducible exact floor_validName.mono _ _)
    | (with_reducible exact LeO.refl _)
    | (with_reducible exact LeO.none _)
    | (with_reducible refine LeO.ite ?_ ?_)
    | (with_reducible refine LeO.bind ?_ (fun _ => ?_))
    | exact ih0 _ _ _ _ _ _ _ _ _ _ _
    | exact ih1 _ _ _ _ _ _ _ _ _ _ _ _ _
    | exact ih2 _ _ _ _ _ _ _ _ _ _ _ _ _ _ _ _ _ _
    | exact ih3 _ _ _ _ _ _ _
    | exact ih4 _ _ _ _ _ _ _ _ _ _ _ _ _ _
    | exact floor_validName.mono _ _
    | exact LeO.none _
    | refine LeO.ite ?_ ?_
    | refine LeO.bind ?_ (fun _ => ?_)
  · intro y0 y1 y2 y3 y4 y5 y6 y7 y8 y9 y10 y11 y12 y13 y14 y15 y16 y17
    unfold floor_checkPort.j3
    repeat' first
    | (with_reducible exact ih0 _ _ _ _ _ _ _ _ _ _ _)
    | (with_reducible exact ih1 _ _ _ _ _ _ _ _ _ _ _ _ _)
    | (with_reducible exact ih2 _ _ _ _ _ _ _ _ _ _ _ _ _ _ _ _ _ _)
    | (with_reducible exact ih3 _ _ _ _ _ _ _)
    | (with_reducible exact ih4 _ _ _ _ _ _ _ _ _ _ _ _ _ _)
    | (with_reducible exact floor_validName.mono _ _)
    | (with_reducible exact LeO.refl _)
    | (with_reducible exact LeO.none _)
    | (with_reducible refine LeO.ite ?_ ?_)
    | (with_reducible refine LeO.bind ?_ (fun _ => ?_))
    | exact ih0 _ _ _ _ _ _ _ _ _ _ _
    | exact ih1 _ _ _ _ _ _ _ _ _ _ _ _ _
    | exact ih2 _ _ _ _ _ _ _ _ _ _ _ _ _ _ _ _ _ _
    | exact ih3 _ _ _ _ _ _ _
    | exact ih4 _ _ _ _ _ _ _ _ _ _ _ _ _ _
    | exact floor_validName.mono _ _
    | exact LeO.none _
    | refine LeO.ite ?_ ?_
    | refine LeO.bind ?_ (fun _ => ?_)
  · intro y0 y1 y2 y3 y4 y5 y6
    unfold floor_checkPort.l1
    repeat' first
    | (with_reducible exact ih0 _ _ _ _ _ _ _ _ _ _ _)
    | (with_reducible exact ih1 _ _ _ _ _ _ _ _ _ _ _ _ _)
    | (with_reducible exact ih2 _ _ _ _ _ _ _ _ _ _ _ _ _ _ _ _ _ _)
    | (with_reducible exact ih3 _ _ _ _ _ _ _)
    | (with_reducible exact ih4 _ _ _ _ _ _ _ _ _ _ _ _ _ _)
    | (with_reducible exact floor_validName.mono _ _)
    | (with_reducible exact LeO.refl _)
    | (with_reducible exact LeO.none _)
    | (with_reducible refine LeO.ite ?_ ?_)
    | (with_reducible refine LeO.bind ?_ (fun _ => ?_))
    | exact ih0 _ _ _ _ _ _ _ _ _ _ _
    | exact ih1 _ _ _ _ _ _ _ _ _ _ _ _ _
    | exact ih2 _ _ _ _ _ _ _ _ _ _ _ _ _ _ _ _ _ _
    | exact ih3 _ _ _ _ _ _ _
    | exact ih4 _ _ _ _ _ _ _ _ _ _ _ _ _ _
    | exact floor_validName.mono _ _
    | exact LeO.none _
    | refine LeO.ite ?_ ?_
    | refine LeO.bind ?_ (fun _ => ?_)
  · intro y0 y1 y2 y3 y4 y5 y6 y7 y8 y9 y10 y11 y12 y13
    unfold floor_checkPort.j0
    repeat' first
    | (with_reducible exact ih0 _ _ _ _ _ _ _ _ _ _ _)
    | (with_reducible exact ih1 _ _ _ _ _ _ _ _ _ _ _ _ _)
    | (with_reducible exact ih2 _ _ _ _ _ _ _ _ _ _ _ _ _ _ _ _ _ _)
    | (with_reducible exact ih3 _ _ _ _ _ _ _)
    | (with_reducible exact ih4 _ _ _ _ _ _ _ _ _ _ _ _ _ _)
    | (with_reducible exact floor_validName.mono _ _)
    | (with_reducible exact LeO.refl _)
    | (with_reducible exact LeO.none _)
    | (with_reducible refine LeO.ite ?_ ?_)
    | (with_reducible refine LeO.bind ?_ (fun _ => ?_))
    | exact ih0 _ _ _ _ _ _ _ _ _ _ _
    | exact ih1 _ _ _ _ _ _ _ _ _ _ _ _ _
    | exact ih2 _ _ _ _ _ _ _ _ _ _ _ _ _ _ _ _ _ _
    | exact ih3 _ _ _ _ _ _ _
    | exact ih4 _ _ _ _ _ _ _ _ _ _ _ _ _ _
    | exact floor_validName.mono _ _
    | exact LeO.none _
    | refine LeO.ite ?_ ?_
    | refine LeO.bind ?_ (fun _ => ?_)
theorem floor_checkPort.mono : ∀ a0 a1 a2 a3 a4 a5 a6 k, LeO (floor_checkPort.f k a0 a1 a2 a3 a4 a5 a6) (floor_checkPort.f (k + 1) a0 a1 a2 a3 a4 a5 a6) := by
 intro a0 a1 a2 a3 a4 a5 a6 k
 obtain ⟨ih0, ih1, ih2, ih3, ih4⟩ := floor_checkPort.mono_l k
 unfold floor_checkPort.f
 repeat' first
  | (with_reducible exact ih0 _ _ _ _ _ _ _ _ _ _ _)
  | (with_reducible exact ih1 _ _ _ _ _ _ _ _ _ _ _ _ _)
  | (with_reducible exact ih2 _ _ _ _ _ _ _ _ _ _ _ _ _ _ _ _ _ _)
  | (with_reducible exact ih3 _ _ _ _ _ _ _)
  | (with_reducible exact ih4 _ _ _ _ _ _ _ _ _ _ _ _ _ _)
  | (with_reducible exact floor_validName.mono _ _)
  | (with_reducible exact LeO.refl _)
  | (with_reducible exact LeO.none _)
  | (with_reducible refine LeO.ite ?_ ?_)
  | (with_reducible refine LeO.bind ?_ (fun _ => ?_))
  | exact ih0 _ _ _ _ _ _ _ _ _ _ _
  | exact ih1 _ _ _ _ _ _ _ _ _ _ _ _ _
  | exact ih2 _ _ _ _ _ _ _ _ _ _ _ _ _ _ _ _ _ _
  | exact ih3 _ _ _ _ _ _ _
  | exact ih4 _ _ _ _ _ _ _ _ _ _ _ _ _ _
  | exact floor_validName.mono _ _
  | exact LeO.none _
  | refine LeO.ite ?_ ?_
  | refine LeO.bind ?_ (fun _ => ?_)
set_option maxHeartbeats 8000000 in
set_option maxRecDepth 100000 in
theorem floor_checkPort.calls (k : Nat) (a0_0 : Int) (a0_1 : Int) (a0_2 : Int) (A0_3 : Option Addr) (c0_3 : Nat) (l0_3 : List (S98)) (A0_4 : Option Addr) (c0_4 : Nat) (l0_4 : List (S100)) (A0_5 : Option Addr) (c0_5 : Nat) (l0_5 : List (S96)) (a1 : Int) (r : Int) (w : World) (hr0_3 : Kd.C k98 w A0_3 l0_3.length l0_3) (hc0_3 : l0_3.length ≤ c0_3) (hr0_4 : Kd.C k100 w A0_4 l0_4.length l0_4) (hc0_4 : l0_4.length ≤ c0_4) (hr0_5 : Kd.C k96 w A0_5 l0_5.length l0_5) (hc0_5 : l0_5.length ≤ c0_5) (h : floor_checkPort.f k a0_0 a0_1 a0_2 l0_3 l0_4 l0_5 a1 = some r) :
 Calls Try.prog 50 #[.agg #[.int .i64 a0_0, .int .i64 a0_1, .int .i64 a0_2, .slice A0_3 l0_3.length c0_3, .slice A0_4 l0_4.length c0_4, .slice A0_5 l0_5.length c0_5], .int .i64 a1] w fun e w' => e = .returned (.int .i64 r) ∧ Below w.heap.size w w' := by
 have hu57 := Try.underlying57
 have hu96 := Try.underlying96
 have hu100 := Try.underlying100
 have HR0_3 := Aside0.mk hr0_3
 have HC0_3 := Aside0.mk hc0_3
 clear hr0_3 hc0_3
 have HR0_4 := Aside0.mk hr0_4
 have HC0_4 := Aside0.mk hc0_4
 clear hr0_4 hc0_4
 have HR0_5 := Aside0.mk hr0_5
 have HC0_5 := Aside0.mk hc0_5
 clear hr0_5 hc0_5
 have HB := Aside0.mk (Below.refl w.heap.size w)
 have H : (if 0 ≤ a1 then (if a1 < (l0_5.length : Int) then ((floor_Size.f a0_0 a0_1 a0_2 l0_3 l0_4 l0_5).bind fun bt177 => ((floor_validName.f k ((rd_T96 l0_5 a1).f0)).bind fun t179 => (if t179 = true then (if ((rd_T96 l0_5 a1).f0).toList = ([] : List UInt8) then (floor_checkPort.j0 k a1 bt177.1 bt177.2 ((rd_T96 l0_5 a1).f1) a0_0 a0_1 a0_2 l0_3 l0_4 l0_5 ((rd_T96 l0_5 a1).f0) ((rd_T96 l0_5 a1).f1) ((rd_T96 l0_5 a1).f2) ((rd_T96 l0_5 a1).f3)) else (floor_checkPort.j0 k a1 bt177.1 bt177.2 false a0_0 a0_1 a0_2 l0_3 l0_4 l0_5 ((rd_T96 l0_5 a1).f0) ((rd_T96 l0_5 a1).f1) ((rd_T96 l0_5 a1).f2) ((rd_T96 l0_5 a1).f3))) else (some 9)))) else (none)) else (none)) = some r := h
 clear h
 by_cases c3 : 0 ≤ a1
 · rw [if_pos c3] at H
   have c3b0 : decide (0 ≤ a1) = true := decide_eq_true c3
   clear c3
   by_cases c4 : a1 < (l0_5.length : Int)
   · rw [if_pos c4] at H
     have c4b0 : decide (a1 < (l0_5.length : Int)) = true := decide_eq_true c4
     clear c4
     replace H := Option.bind_eq_some_iff.mp H
     obtain ⟨⟨t177, t178⟩, A50, H⟩ := H
     replace H : ((floor_validName.f k ((rd_T96 l0_5 a1).f0)).bind fun t179 => (if t179 = true then (if ((rd_T96 l0_5 a1).f0).toList = ([] : List UInt8) then (floor_checkPort.j0 k a1 t177 t178 ((rd_T96 l0_5 a1).f1) a0_0 a0_1 a0_2 l0_3 l0_4 l0_5 ((rd_T96 l0_5 a1).f0) ((rd_T96 l0_5 a1).f1) ((rd_T96 l0_5 a1).f2) ((rd_T96 l0_5 a1).f3)) else (floor_checkPort.j0 k a1 t177 t178 false a0_0 a0_1 a0_2 l0_3 l0_4 l0_5 ((rd_T96 l0_5 a1).f0) ((rd_T96 l0_5 a1).f1) ((rd_T96 l0_5 a1).f2) ((rd_T96 l0_5 a1).f3))) else (some 9))) = some r := H
     have A5 := Aside0.mk A50
     clear A50
     have HC6 := Aside0.mk H
     clear H
     go_enter Try.func50, Try.ntmps50
     go_upto_block 0 with (first | ((with_reducible refine gate_dst (N := 2) rfl ?_); refine box_event ?hg (N := 2) ?hd (cs := #[.int .i64 a0_0, .int .i64 a0_1, .int .i64 a0_2, .slice A0_3 l0_3.length c0_3, .slice A0_4 l0_4.length c0_4, .slice A0_5 l0_5.length c0_5]) (t := 57) ?hr ?_; (case hd => rfl); (case hg => rfl); (case hr => first | (go_simp; done) | (go_simp; rfl)); intro gb174 hg w7 hbox hb; have n0_ := Aside0.mk (below_step (by repeat (first | (with_reducible first | exact HB.out | apply below_alloc | apply pw_below_drewN | apply below_drew1) | exact HB.out)) hb); have n1_ := Aside0.mk (hbox); have n2_ := Aside0.mk ((by rw [hg]; exact (below_size (by repeat (first | (with_reducible first | exact HB.out | apply below_alloc | apply pw_below_drewN | apply below_drew1) | exact HB.out))) : w.heap.size ≤ gb174)); have n3_ := Aside0.mk ((by rw [hg]; exact (below_size (by repeat (first | (with_reducible first | exact HB.out | apply below_alloc | apply pw_below_drewN | apply below_drew1) | exact HB.out))) : w.heap.size ≤ gb174)); clear HB; have HB := n0_; have BK174 := n1_; have GW174 := n2_; have GE174 := n3_; clear n0_ n1_ n2_ n3_; clear hb hbox hg; have hcz8_0 : w7.cell? ⟨gb174, 0, none⟩ = some (.int .i64 a0_0) := (blk_cell BK174.out 0).trans rfl; have hcz8_1 : w7.cell? ⟨gb174, 1, none⟩ = some (.int .i64 a0_1) := (blk_cell BK174.out 1).trans rfl; have hcz8_2 : w7.cell? ⟨gb174, 2, none⟩ = some (.int .i64 a0_2) := (blk_cell BK174.out 2).trans rfl; have hcz8_3 : w7.cell? ⟨gb174, 3, none⟩ = some (.slice A0_3 l0_3.length c0_3) := (blk_cell BK174.out 3).trans rfl; have hcz8_4 : w7.cell? ⟨gb174, 4, none⟩ = some (.slice A0_4 l0_4.length c0_4) := (blk_cell BK174.out 4).trans rfl; have hcz8_5 : w7.cell? ⟨gb174, 5, none⟩ = some (.slice A0_5 l0_5.length c0_5) := (blk_cell BK174.out 5).trans rfl; have hfz8_0 := blk_frozen BK174.out 0; have hfz8_1 := blk_frozen BK174.out 1; have hfz8_2 := blk_frozen BK174.out 2; have hfz8_3 := blk_frozen BK174.out 3; have hfz8_4 := blk_frozen BK174.out 4; have hfz8_5 := blk_frozen BK174.out 5; have p175 : 0 ≤ (a1 : Int) := of_decide_eq_true (by first | (with_reducible assumption) | assumption); have q175 : a1 < (l0_5.length : Int) := of_decide_eq_true (by first | (with_reducible assumption) | assumption); obtain ⟨ad175, e175, hx175_0, hx175_1, hx175_2, hx175_3⟩ := at_T96 HR0_5.out a1 p175 q175; cases e175; replace hx175_0 := (HB.out.cell (World.block_lt_of_cell? w _ hx175_0)).trans hx175_0; replace hx175_1 := (HB.out.cell (World.block_lt_of_cell? w _ hx175_1)).trans hx175_1; replace hx175_2 := (HB.out.cell (World.block_lt_of_cell? w _ hx175_2)).trans hx175_2; replace hx175_3 := (HB.out.cell (World.block_lt_of_cell? w _ hx175_3)).trans hx175_3; replace p175 := eq_true p175; replace q175 := eq_true q175) | ((with_reducible refine gate_dst (N := 5) rfl ?_); refine box_event ?hg (N := 5) ?hd (cs := #[.string (⟨#[]⟩ : ByteArray), .bool false, .int .i64 0, .int .i64 0]) (t := 96) ?hr ?_; (case hd => rfl); (case hg => rfl); (case hr => first | (go_simp; done) | (go_simp; rfl)); intro gb176 hg w9 hbox hb; have n0_ := Aside0.mk (blk_below (g := gb174) (o := .cells #[.int .i64 a0_0, .int .i64 a0_1, .int .i64 a0_2, .slice A0_3 l0_3.length c0_3, .slice A0_4 l0_4.length c0_4, .slice (some ad175) l0_5.length c0_5] 57 (0, 0)) (by (with_reducible repeat (first | refine blk_drewN ?_ _ | refine blk_drew ?_ | refine blk_alloc ?_ _)); exact BK174.out) hb); have n1_ := Aside0.mk (below_step (by repeat (first | (with_reducible first | exact HB.out | apply below_alloc | apply pw_below_drewN | apply below_drew1 | refine below_set ?_ GE174.out) | exact HB.out)) hb); have n2_ := Aside0.mk (hbox); have n3_ := Aside0.mk ((by rw [hg]; exact (below_size (by repeat (first | (with_reducible first | exact HB.out | apply below_alloc | apply pw_below_drewN | apply below_drew1 | refine below_set ?_ GE174.out) | exact HB.out))) : w.heap.size ≤ gb176)); have n4_ := Aside0.mk ((by rw [hg]; exact (below_size (by repeat (first | (with_reducible first | exact HB.out | apply below_alloc | apply pw_below_drewN | apply below_drew1 | refine below_set ?_ GE174.out) | exact HB.out))) : w.heap.size ≤ gb176)); have n5_ := Aside0.mk ((by rw [hg]; exact Nat.ne_of_lt (blk_lt (g := gb174) (o := .cells #[.int .i64 a0_0, .int .i64 a0_1, .int .i64 a0_2, .slice A0_3 l0_3.length c0_3, .slice A0_4 l0_4.length c0_4, .slice (some ad175) l0_5.length c0_5] 57 (0, 0)) (by (with_reducible repeat (first | refine blk_drewN ?_ _ | refine blk_drew ?_ | refine blk_alloc ?_ _)); exact BK174.out)) : gb174 ≠ gb176)); have n6_ := Aside0.mk ((by rw [hg]; exact Nat.ne_of_gt (blk_lt (g := gb174) (o := .cells #[.int .i64 a0_0, .int .i64 a0_1, .int .i64 a0_2, .slice A0_3 l0_3.length c0_3, .slice A0_4 l0_4.length c0_4, .slice (some ad175) l0_5.length c0_5] 57 (0, 0)) (by (with_reducible repeat (first | refine blk_drewN ?_ _ | refine blk_drew ?_ | refine blk_alloc ?_ _)); exact BK174.out)) : gb176 ≠ gb174)); clear BK174; clear HB; have BK174 := n0_; have HB := n1_; have BK176 := n2_; have GW176 := n3_; have GE176 := n4_; have NB174_176 := n5_; have NB176_174 := n6_; clear n0_ n1_ n2_ n3_ n4_ n5_ n6_; clear hb hbox hg; have hnb10 := NB176_174.out; have hnc10 := NB174_176.out; have hcz11_0 : w9.cell? ⟨gb176, 0, none⟩ = some (.string (⟨#[]⟩ : ByteArray)) := (blk_cell BK176.out 0).trans rfl; have hcz11_1 : w9.cell? ⟨gb176, 1, none⟩ = some (.bool false) := (blk_cell BK176.out 1).trans rfl; have hcz11_2 : w9.cell? ⟨gb176, 2, none⟩ = some (.int .i64 0) := (blk_cell BK176.out 2).trans rfl; have hcz11_3 : w9.cell? ⟨gb176, 3, none⟩ = some (.int .i64 0) := (blk_cell BK176.out 3).trans rfl; have hfz11_0 := blk_frozen BK176.out 0; have hfz11_1 := blk_frozen BK176.out 1; have hfz11_2 := blk_frozen BK176.out 2; have hfz11_3 := blk_frozen BK176.out 3; have hcz12_0 : w9.cell? ⟨gb174, 0, none⟩ = some (.int .i64 a0_0) := (blk_cell BK174.out 0).trans rfl; have hcz12_1 : w9.cell? ⟨gb174, 1, none⟩ = some (.int .i64 a0_1) := (blk_cell BK174.out 1).trans rfl; have hcz12_2 : w9.cell? ⟨gb174, 2, none⟩ = some (.int .i64 a0_2) := (blk_cell BK174.out 2).trans rfl; have hcz12_3 : w9.cell? ⟨gb174, 3, none⟩ = some (.slice A0_3 l0_3.length c0_3) := (blk_cell BK174.out 3).trans rfl; have hcz12_4 : w9.cell? ⟨gb174, 4, none⟩ = some (.slice A0_4 l0_4.length c0_4) := (blk_cell BK174.out 4).trans rfl; have hcz12_5 : w9.cell? ⟨gb174, 5, none⟩ = some (.slice (some ad175) l0_5.length c0_5) := (blk_cell BK174.out 5).trans rfl; have hfz12_0 := blk_frozen BK174.out 0; have hfz12_1 := blk_frozen BK174.out 1; have hfz12_2 := blk_frozen BK174.out 2; have hfz12_3 := blk_frozen BK174.out 3; have hfz12_4 := blk_frozen BK174.out 4; have hfz12_5 := blk_frozen BK174.out 5) | ((with_reducible refine gate_callee (f := 27) rfl ?_); refine goesL_ (some 19) rfl rfl Try.func27 (by kernel_rfl) rfl #[.agg #[.int .i64 a0_0, .int .i64 a0_1, .int .i64 a0_2, .slice A0_3 l0_3.length c0_3, .slice A0_4 l0_4.length c0_4, .slice (some ad175) l0_5.length c0_5]] rfl (by (try simp only [List.map_toArray, List.map_cons, List.map_nil]); first | done | rfl | (simp only [List.length_drop, List.length_take]; rfl)) ?_; (with_reducible refine (floor_Size.calls a0_0 a0_1 a0_2 _ _ l0_3 _ _ l0_4 _ _ l0_5 t177 t178 _ ?side1 ?side2 ?side3 ?side4 ?side5 ?side6 A5.out).mono ?_); (case side1 => exact Kd.C_below HR0_3.out (by repeat (first | (with_reducible first | exact HB.out | apply below_alloc | apply pw_below_drewN | apply below_drew1 | refine below_set ?_ GE174.out | refine below_set ?_ GE176.out) | exact HB.out))); (case side2 => exact HC0_3.out); (case side3 => exact Kd.C_below HR0_4.out (by repeat (first | (with_reducible first | exact HB.out | apply below_alloc | apply pw_below_drewN | apply below_drew1 | refine below_set ?_ GE174.out | refine below_set ?_ GE176.out) | exact HB.out))); (case side4 => exact HC0_4.out); (case side5 => exact Kd.C_below HR0_5.out (by repeat (first | (with_reducible first | exact HB.out | apply below_alloc | apply pw_below_drewN | apply below_drew1 | refine below_set ?_ GE174.out | refine below_set ?_ GE176.out) | exact HB.out))); (case side6 => exact HC0_5.out); rintro e w13 ⟨rfl, hb⟩; refine ⟨_, rfl, ?_⟩; have n0_ := Aside0.mk (blk_below (g := gb174) (o := .cells #[.int .i64 a0_0, .int .i64 a0_1, .int .i64 a0_2, .slice A0_3 l0_3.length c0_3, .slice A0_4 l0_4.length c0_4, .slice (some ad175) l0_5.length c0_5] 57 (0, 0)) (by (with_reducible repeat (first | refine blk_drewN ?_ _ | refine blk_drew ?_ | refine blk_alloc ?_ _)); refine blk_far ?_ NB174_176.out _; (with_reducible repeat (first | refine blk_drewN ?_ _ | refine blk_drew ?_ | refine blk_alloc ?_ _)); refine blk_far ?_ NB174_176.out _; (with_reducible repeat (first | refine blk_drewN ?_ _ | refine blk_drew ?_ | refine blk_alloc ?_ _)); refine blk_far ?_ NB174_176.out _; (with_reducible repeat (first | refine blk_drewN ?_ _ | refine blk_drew ?_ | refine blk_alloc ?_ _)); refine blk_far ?_ NB174_176.out _; (with_reducible repeat (first | refine blk_drewN ?_ _ | refine blk_drew ?_ | refine blk_alloc ?_ _)); exact BK174.out) hb); have n1_ := Aside0.mk (blk_below (g := gb176) (o := .cells #[.string ((rd_T96 l0_5 a1).f0), .bool ((rd_T96 l0_5 a1).f1), .int .i64 ((rd_T96 l0_5 a1).f2), .int .i64 ((rd_T96 l0_5 a1).f3)] 96 (0, 0)) (by (with_reducible repeat (first | refine blk_drewN ?_ _ | refine blk_drew ?_ | refine blk_alloc ?_ _)); refine blk_put (cs := #[.string ((rd_T96 l0_5 a1).f0), .bool ((rd_T96 l0_5 a1).f1), .int .i64 ((rd_T96 l0_5 a1).f2), .int .i64 0]) ?_ 3 _ rfl; (with_reducible repeat (first | refine blk_drewN ?_ _ | refine blk_drew ?_ | refine blk_alloc ?_ _)); refine blk_put (cs := #[.string ((rd_T96 l0_5 a1).f0), .bool ((rd_T96 l0_5 a1).f1), .int .i64 0, .int .i64 0]) ?_ 2 _ rfl; (with_reducible repeat (first | refine blk_drewN ?_ _ | refine blk_drew ?_ | refine blk_alloc ?_ _)); refine blk_put (cs := #[.string ((rd_T96 l0_5 a1).f0), .bool false, .int .i64 0, .int .i64 0]) ?_ 1 _ rfl; (with_reducible repeat (first | refine blk_drewN ?_ _ | refine blk_drew ?_ | refine blk_alloc ?_ _)); refine blk_put (cs := #[.string (⟨#[]⟩ : ByteArray), .bool false, .int .i64 0, .int .i64 0]) ?_ 0 _ rfl; (with_reducible repeat (first | refine blk_drewN ?_ _ | refine blk_drew ?_ | refine blk_alloc ?_ _)); exact BK176.out) hb); have n2_ := Aside0.mk (below_step (by repeat (first | (with_reducible first | exact HB.out | apply below_alloc | apply pw_below_drewN | apply below_drew1 | refine below_set ?_ GE174.out | refine below_set ?_ GE176.out) | exact HB.out)) hb); clear BK174; clear BK176; clear HB; have BK174 := n0_; have BK176 := n1_; have HB := n2_; clear n0_ n1_ n2_; (try clear hb); (try clear hb2); (try clear hk); (try clear hi)))
     (try simp only [Act.put, List.setIfInBounds_toArray, List.set_cons_zero, List.set_cons_succ])
     go_cut [] (fun wc => ∃ (kq : Nat), Aside0 (floor_checkPort.j1 kq a1 a0_0 a0_1 a0_2 l0_3 l0_4 l0_5 ((rd_T96 l0_5 a1).f0) ((rd_T96 l0_5 a1).f1) ((rd_T96 l0_5 a1).f2) ((rd_T96 l0_5 a1).f3) = some r) ∧ Aside0 (kq ≤ k) ∧ Aside0 (wc.heap[gb174]? = some (.cells #[.int .i64 a0_0, .int .i64 a0_1, .int .i64 a0_2, (.slice A0_3 l0_3.length c0_3), (.slice A0_4 l0_4.length c0_4), (.slice (some ad175) l0_5.length c0_5)] 57 (0, 0))) ∧ Aside0 (wc.heap[gb176]? = some (.cells #[.string ((rd_T96 l0_5 a1).f0), .bool ((rd_T96 l0_5 a1).f1), .int .i64 ((rd_T96 l0_5 a1).f2), .int .i64 ((rd_T96 l0_5 a1).f3)] 96 (0, 0))) ∧ Aside0 (Below w.heap.size w wc))
     case first =>
      have H := HC6.out
      clear HC6
      replace H := Option.bind_eq_some_iff.mp H
      obtain ⟨t179, A140, H⟩ := H
      replace H : (if t179 = true then (if ((rd_T96 l0_5 a1).f0).toList = ([] : List UInt8) then (floor_checkPort.j0 k a1 t177 t178 ((rd_T96 l0_5 a1).f1) a0_0 a0_1 a0_2 l0_3 l0_4 l0_5 ((rd_T96 l0_5 a1).f0) ((rd_T96 l0_5 a1).f1) ((rd_T96 l0_5 a1).f2) ((rd_T96 l0_5 a1).f3)) else (floor_checkPort.j0 k a1 t177 t178 false a0_0 a0_1 a0_2 l0_3 l0_4 l0_5 ((rd_T96 l0_5 a1).f0) ((rd_T96 l0_5 a1).f1) ((rd_T96 l0_5 a1).f2) ((rd_T96 l0_5 a1).f3))) else (some 9)) = some r := H
      have A14 := Aside0.mk A140
      clear A140
      by_cases c15 : t179 = true
      · subst c15
        have H1 : (if ((rd_T96 l0_5 a1).f0).toList = ([] : List UInt8) then (floor_checkPort.j0 k a1 t177 t178 ((rd_T96 l0_5 a1).f1) a0_0 a0_1 a0_2 l0_3 l0_4 l0_5 ((rd_T96 l0_5 a1).f0) ((rd_T96 l0_5 a1).f1) ((rd_T96 l0_5 a1).f2) ((rd_T96 l0_5 a1).f3)) else (floor_checkPort.j0 k a1 t177 t178 false a0_0 a0_1 a0_2 l0_3 l0_4 l0_5 ((rd_T96 l0_5 a1).f0) ((rd_T96 l0_5 a1).f1) ((rd_T96 l0_5 a1).f2) ((rd_T96 l0_5 a1).f3))) = some r := by rw [if_pos rfl] at H; exact H
        clear H
        have H := H1
        clear H1
        have HC16 := Aside0.mk H
        clear H
        have hnb17 := NB176_174.out
        have hnc17 := NB174_176.out
        have hcz18_0 : w13.cell? ⟨gb176, 0, none⟩ = some (.string ((rd_T96 l0_5 a1).f0)) := (blk_cell BK176.out 0).trans rfl
        have hcz18_1 : w13.cell? ⟨gb176, 1, none⟩ = some (.bool ((rd_T96 l0_5 a1).f1)) := (blk_cell BK176.out 1).trans rfl
        have hcz18_2 : w13.cell? ⟨gb176, 2, none⟩ = some (.int .i64 ((rd_T96 l0_5 a1).f2)) := (blk_cell BK176.out 2).trans rfl
        have hcz18_3 : w13.cell? ⟨gb176, 3, none⟩ = some (.int .i64 ((rd_T96 l0_5 a1).f3)) := (blk_cell BK176.out 3).trans rfl
        have hfz18_0 := blk_frozen BK176.out 0
        have hfz18_1 := blk_frozen BK176.out 1
        have hfz18_2 := blk_frozen BK176.out 2
        have hfz18_3 := blk_frozen BK176.out 3
        go_upto_region 5 with (first | ((with_reducible refine gate_callee (f := 58) rfl ?_); refine goesL_ (some 25) rfl rfl Try.func58 (by kernel_rfl) rfl #[.string ((rd_T96 l0_5 a1).f0)] rfl (by (try simp only [List.map_toArray, List.map_cons, List.map_nil]); first | done | rfl | (simp only [List.length_drop, List.length_take]; rfl)) ?_; (with_reducible refine (floor_validName.calls k ((rd_T96 l0_5 a1).f0) true _ A14.out).mono ?_); rintro e w' ⟨rfl, ⟨nd, rfl⟩⟩; refine ⟨_, rfl, ?_⟩))
        (try simp only [Act.put, List.setIfInBounds_toArray, List.set_cons_zero, List.set_cons_succ])
        go_cut [27] (fun v27 wc => ∃ (kq : Nat) (x27_15 : Bool), v27 = .bool x27_15 ∧ Aside0 (floor_checkPort.j0 kq a1 t177 t178 x27_15 a0_0 a0_1 a0_2 l0_3 l0_4 l0_5 ((rd_T96 l0_5 a1).f0) ((rd_T96 l0_5 a1).f1) ((rd_T96 l0_5 a1).f2) ((rd_T96 l0_5 a1).f3) = some r) ∧ Aside0 (kq ≤ k) ∧ Aside0 (wc.heap[gb174]? = some (.cells #[.int .i64 a0_0, .int .i64 a0_1, .int .i64 a0_2, (.slice A0_3 l0_3.length c0_3), (.slice A0_4 l0_4.length c0_4), (.slice (some ad175) l0_5.length c0_5)] 57 (0, 0))) ∧ Aside0 (wc.heap[gb176]? = some (.cells #[.string ((rd_T96 l0_5 a1).f0), .bool ((rd_T96 l0_5 a1).f1), .int .i64 ((rd_T96 l0_5 a1).f2), .int .i64 ((rd_T96 l0_5 a1).f3)] 96 (0, 0))) ∧ Aside0 (Below w.heap.size w wc))
        case first =>
         have H := HC16.out
         clear HC16
         by_cases c19 : ((rd_T96 l0_5 a1).f0).toList = ([] : List UInt8)
         · rw [if_pos c19] at H
           have c19b0 : (((rd_T96 l0_5 a1).f0).toList == ([] : List UInt8)) = true := beq_iff_eq.mpr c19
           have c19b1 : (((rd_T96 l0_5 a1).f0).toList != ([] : List UInt8)) = false := bne_eq_false_iff_eq.mpr c19
           clear c19
           (first | rw [c19b0] | (simp only [i64_w, i32_w]; rw [c19b0]) | skip)
           have H' := Aside0.mk H
           clear H
           have hnb20 := NB176_174.out
           have hnc20 := NB174_176.out
           have hcz21_0 : w13.cell? ⟨gb176, 0, none⟩ = some (.string ((rd_T96 l0_5 a1).f0)) := (blk_cell BK176.out 0).trans rfl
           have hcz21_1 : w13.cell? ⟨gb176, 1, none⟩ = some (.bool ((rd_T96 l0_5 a1).f1)) := (blk_cell BK176.out 1).trans rfl
           have hcz21_2 : w13.cell? ⟨gb176, 2, none⟩ = some (.int .i64 ((rd_T96 l0_5 a1).f2)) := (blk_cell BK176.out 2).trans rfl
           have hcz21_3 : w13.cell? ⟨gb176, 3, none⟩ = some (.int .i64 ((rd_T96 l0_5 a1).f3)) := (blk_cell BK176.out 3).trans rfl
           have hfz21_0 := blk_frozen BK176.out 0
           have hfz21_1 := blk_frozen BK176.out 1
           have hfz21_2 := blk_frozen BK176.out 2
           have hfz21_3 := blk_frozen BK176.out 3
           go_wp2
           go_meet
           case rel => exact ⟨_, ((rd_T96 l0_5 a1).f1), (by first | rfl | (simp; done) | (simp [*]; done)), H', ⟨by first | omega | exact Nat.le_refl _⟩, ⟨by (with_reducible repeat (first | refine blk_drewN ?_ _ | refine blk_drew ?_ | refine blk_alloc ?_ _)); exact BK174.out⟩, ⟨by (with_reducible repeat (first | refine blk_drewN ?_ _ | refine blk_drew ?_ | refine blk_alloc ?_ _)); exact BK176.out⟩, ⟨by repeat (first | (with_reducible first | exact HB.out | apply below_alloc | apply pw_below_drewN | apply below_drew1 | refine below_set ?_ GE174.out | refine below_set ?_ GE176.out) | exact HB.out)⟩⟩
         · rw [if_neg c19] at H
           have c19b0 : (((rd_T96 l0_5 a1).f0).toList == ([] : List UInt8)) = false := beq_eq_false_iff_ne.mpr c19
           have c19b1 : (((rd_T96 l0_5 a1).f0).toList != ([] : List UInt8)) = true := bne_iff_ne.mpr c19
           (first | rw [c19b0] | (simp only [i64_w, i32_w]; rw [c19b0]) | skip)
           have H' := Aside0.mk H
           clear H
           have hnb22 := NB176_174.out
           have hnc22 := NB174_176.out
           have hcz23_0 : w13.cell? ⟨gb176, 0, none⟩ = some (.string ((rd_T96 l0_5 a1).f0)) := (blk_cell BK176.out 0).trans rfl
           have hcz23_1 : w13.cell? ⟨gb176, 1, none⟩ = some (.bool ((rd_T96 l0_5 a1).f1)) := (blk_cell BK176.out 1).trans rfl
           have hcz23_2 : w13.cell? ⟨gb176, 2, none⟩ = some (.int .i64 ((rd_T96 l0_5 a1).f2)) := (blk_cell BK176.out 2).trans rfl
           have hcz23_3 : w13.cell? ⟨gb176, 3, none⟩ = some (.int .i64 ((rd_T96 l0_5 a1).f3)) := (blk_cell BK176.out 3).trans rfl
           have hfz23_0 := blk_frozen BK176.out 0
           have hfz23_1 := blk_frozen BK176.out 1
           have hfz23_2 := blk_frozen BK176.out 2
           have hfz23_3 := blk_frozen BK176.out 3
           go_wp2
           go_meet
           case rel => exact ⟨_, (false), (by first | rfl | (simp; done) | (simp [*]; done)), H', ⟨by first | omega | exact Nat.le_refl _⟩, ⟨by (with_reducible repeat (first | refine blk_drewN ?_ _ | refine blk_drew ?_ | refine blk_alloc ?_ _)); exact BK174.out⟩, ⟨by (with_reducible repeat (first | refine blk_drewN ?_ _ | refine blk_drew ?_ | refine blk_alloc ?_ _)); exact BK176.out⟩, ⟨by repeat (first | (with_reducible first | exact HB.out | apply below_alloc | apply pw_below_drewN | apply below_drew1 | refine below_set ?_ GE174.out | refine below_set ?_ GE176.out) | exact HB.out)⟩⟩
        case rest =>
         clear HC16
         try clear c1
         try clear p1
         try clear q1
         try clear hx1
         try clear c2
         try clear p2
         try clear c3
         try clear c3b0
         try clear c4
         try clear c4b0
         try clear c5
         try clear c10
         try clear c15
         try clear c17
         try clear p17
         try clear q17
         try clear hx17
         try clear c19
         try clear c19b0
         try clear c19b1
         try clear c20
         try clear c22
         try clear hcz11_0
         try clear hcz11_1
         try clear hcz11_2
         try clear hcz11_3
         try clear hcz12_0
         try clear hcz12_1
         try clear hcz12_2
         try clear hcz12_3
         try clear hcz12_4
         try clear hcz12_5
         try clear hcz18_0
         try clear hcz18_1
         try clear hcz18_2
         try clear hcz18_3
         try clear hcz21_0
         try clear hcz21_1
         try clear hcz21_2
         try clear hcz21_3
         try clear hcz23_0
         try clear hcz23_1
         try clear hcz23_2
         try clear hcz23_3
         try clear hcz8_0
         try clear hcz8_1
         try clear hcz8_2
         try clear hcz8_3
         try clear hcz8_4
         try clear hcz8_5
         try clear hfz11_0
         try clear hfz11_1
         try clear hfz11_2
         try clear hfz11_3
         try clear hfz12_0
         try clear hfz12_1
         try clear hfz12_2
         try clear hfz12_3
         try clear hfz12_4
         try clear hfz12_5
         try clear hfz18_0
         try clear hfz18_1
         try clear hfz18_2
         try clear hfz18_3
         try clear hfz21_0
         try clear hfz21_1
         try clear hfz21_2
         try clear hfz21_3
         try clear hfz23_0
         try clear hfz23_1
         try clear hfz23_2
         try clear hfz23_3
         try clear hfz8_0
         try clear hfz8_1
         try clear hfz8_2
         try clear hfz8_3
         try clear hfz8_4
         try clear hfz8_5
         try clear hx175_0
         try clear hx175_1
         try clear hx175_2
         try clear hx175_3
         try clear p175
         try clear q175
         obtain ⟨kq, x27_15, rfl, HA, HJ15, BK174, BK176, HB⟩ := hcut
         cases kq with
         | zero => exact absurd HA.out (by simp [floor_checkPort.j0])
         | succ kj15 =>
          have H := HA.out
          clear HA
          simp only [floor_checkPort.j0] at H
          by_cases c24 : x27_15 = true
          · subst c24
            have H1 : (some 4) = some r := by rw [if_pos rfl] at H; exact H
            clear H
            have H := H1
            clear H1
            obtain rfl := Option.some.inj H
            go_wp2
            go_ret
            exact ⟨by first | rfl | (simp [errW_none, errW_some] <;> rfl) | (simp [*, errW_none, errW_some] <;> rfl), by repeat (first | (with_reducible first | exact HB.out | apply below_alloc | apply pw_below_drewN | apply below_drew1 | refine below_set ?_ GE174.out | refine below_set ?_ GE176.out) | exact HB.out)⟩
          · replace c24 := Bool.eq_false_iff.mpr c24
            subst c24
            have H1 : ((floor_within.f ((rd_T96 l0_5 a1).f2) 0 (wrap64 (t177 - 1))).bind fun t180 => (if t180 = true then ((floor_within.f ((rd_T96 l0_5 a1).f3) 0 (wrap64 (t178 - 1))).bind fun t181 => (if t181 = true then (if ((rd_T96 l0_5 a1).f2) > 0 then (if ((rd_T96 l0_5 a1).f2) < (wrap64 (t177 - 1)) then (if ((rd_T96 l0_5 a1).f3) > 0 then (if ((rd_T96 l0_5 a1).f3) < (wrap64 (t178 - 1)) then (some 2) else (floor_checkPort.j1 kj15 a1 a0_0 a0_1 a0_2 l0_3 l0_4 l0_5 ((rd_T96 l0_5 a1).f0) ((rd_T96 l0_5 a1).f1) ((rd_T96 l0_5 a1).f2) ((rd_T96 l0_5 a1).f3))) else (floor_checkPort.j1 kj15 a1 a0_0 a0_1 a0_2 l0_3 l0_4 l0_5 ((rd_T96 l0_5 a1).f0) ((rd_T96 l0_5 a1).f1) ((rd_T96 l0_5 a1).f2) ((rd_T96 l0_5 a1).f3))) else (floor_checkPort.j1 kj15 a1 a0_0 a0_1 a0_2 l0_3 l0_4 l0_5 ((rd_T96 l0_5 a1).f0) ((rd_T96 l0_5 a1).f1) ((rd_T96 l0_5 a1).f2) ((rd_T96 l0_5 a1).f3))) else (floor_checkPort.j1 kj15 a1 a0_0 a0_1 a0_2 l0_3 l0_4 l0_5 ((rd_T96 l0_5 a1).f0) ((rd_T96 l0_5 a1).f1) ((rd_T96 l0_5 a1).f2) ((rd_T96 l0_5 a1).f3))) else (some 2))) else (some 2))) = some r := by rw [if_neg (show ¬ (false = true) by decide)] at H; exact H
            clear H
            have H := H1
            clear H1
            replace H := Option.bind_eq_some_iff.mp H
            obtain ⟨t180, A250, H⟩ := H
            replace H : (if t180 = true then ((floor_within.f ((rd_T96 l0_5 a1).f3) 0 (wrap64 (t178 - 1))).bind fun t181 => (if t181 = true then (if ((rd_T96 l0_5 a1).f2) > 0 then (if ((rd_T96 l0_5 a1).f2) < (wrap64 (t177 - 1)) then (if ((rd_T96 l0_5 a1).f3) > 0 then (if ((rd_T96 l0_5 a1).f3) < (wrap64 (t178 - 1)) then (some 2) else (floor_checkPort.j1 kj15 a1 a0_0 a0_1 a0_2 l0_3 l0_4 l0_5 ((rd_T96 l0_5 a1).f0) ((rd_T96 l0_5 a1).f1) ((rd_T96 l0_5 a1).f2) ((rd_T96 l0_5 a1).f3))) else (floor_checkPort.j1 kj15 a1 a0_0 a0_1 a0_2 l0_3 l0_4 l0_5 ((rd_T96 l0_5 a1).f0) ((rd_T96 l0_5 a1).f1) ((rd_T96 l0_5 a1).f2) ((rd_T96 l0_5 a1).f3))) else (floor_checkPort.j1 kj15 a1 a0_0 a0_1 a0_2 l0_3 l0_4 l0_5 ((rd_T96 l0_5 a1).f0) ((rd_T96 l0_5 a1).f1) ((rd_T96 l0_5 a1).f2) ((rd_T96 l0_5 a1).f3))) else (floor_checkPort.j1 kj15 a1 a0_0 a0_1 a0_2 l0_3 l0_4 l0_5 ((rd_T96 l0_5 a1).f0) ((rd_T96 l0_5 a1).f1) ((rd_T96 l0_5 a1).f2) ((rd_T96 l0_5 a1).f3))) else (some 2))) else (some 2)) = some r := H
            have A25 := Aside0.mk A250
            clear A250
            by_cases c26 : t180 = true
            · subst c26
              have H1 : ((floor_within.f ((rd_T96 l0_5 a1).f3) 0 (wrap64 (t178 - 1))).bind fun t181 => (if t181 = true then (if ((rd_T96 l0_5 a1).f2) > 0 then (if ((rd_T96 l0_5 a1).f2) < (wrap64 (t177 - 1)) then (if ((rd_T96 l0_5 a1).f3) > 0 then (if ((rd_T96 l0_5 a1).f3) < (wrap64 (t178 - 1)) then (some 2) else (floor_checkPort.j1 kj15 a1 a0_0 a0_1 a0_2 l0_3 l0_4 l0_5 ((rd_T96 l0_5 a1).f0) ((rd_T96 l0_5 a1).f1) ((rd_T96 l0_5 a1).f2) ((rd_T96 l0_5 a1).f3))) else (floor_checkPort.j1 kj15 a1 a0_0 a0_1 a0_2 l0_3 l0_4 l0_5 ((rd_T96 l0_5 a1).f0) ((rd_T96 l0_5 a1).f1) ((rd_T96 l0_5 a1).f2) ((rd_T96 l0_5 a1).f3))) else (floor_checkPort.j1 kj15 a1 a0_0 a0_1 a0_2 l0_3 l0_4 l0_5 ((rd_T96 l0_5 a1).f0) ((rd_T96 l0_5 a1).f1) ((rd_T96 l0_5 a1).f2) ((rd_T96 l0_5 a1).f3))) else (floor_checkPort.j1 kj15 a1 a0_0 a0_1 a0_2 l0_3 l0_4 l0_5 ((rd_T96 l0_5 a1).f0) ((rd_T96 l0_5 a1).f1) ((rd_T96 l0_5 a1).f2) ((rd_T96 l0_5 a1).f3))) else (some 2))) = some r := by rw [if_pos rfl] at H; exact H
              clear H
              have H := H1
              clear H1
              replace H := Option.bind_eq_some_iff.mp H
              obtain ⟨t181, A270, H⟩ := H
              replace H : (if t181 = true then (if ((rd_T96 l0_5 a1).f2) > 0 then (if ((rd_T96 l0_5 a1).f2) < (wrap64 (t177 - 1)) then (if ((rd_T96 l0_5 a1).f3) > 0 then (if ((rd_T96 l0_5 a1).f3) < (wrap64 (t178 - 1)) then (some 2) else (floor_checkPort.j1 kj15 a1 a0_0 a0_1 a0_2 l0_3 l0_4 l0_5 ((rd_T96 l0_5 a1).f0) ((rd_T96 l0_5 a1).f1) ((rd_T96 l0_5 a1).f2) ((rd_T96 l0_5 a1).f3))) else (floor_checkPort.j1 kj15 a1 a0_0 a0_1 a0_2 l0_3 l0_4 l0_5 ((rd_T96 l0_5 a1).f0) ((rd_T96 l0_5 a1).f1) ((rd_T96 l0_5 a1).f2) ((rd_T96 l0_5 a1).f3))) else (floor_checkPort.j1 kj15 a1 a0_0 a0_1 a0_2 l0_3 l0_4 l0_5 ((rd_T96 l0_5 a1).f0) ((rd_T96 l0_5 a1).f1) ((rd_T96 l0_5 a1).f2) ((rd_T96 l0_5 a1).f3))) else (floor_checkPort.j1 kj15 a1 a0_0 a0_1 a0_2 l0_3 l0_4 l0_5 ((rd_T96 l0_5 a1).f0) ((rd_T96 l0_5 a1).f1) ((rd_T96 l0_5 a1).f2) ((rd_T96 l0_5 a1).f3))) else (some 2)) = some r := H
              have A27 := Aside0.mk A270
              clear A270
              by_cases c28 : t181 = true
              · subst c28
                have H1 : (if ((rd_T96 l0_5 a1).f2) > 0 then (if ((rd_T96 l0_5 a1).f2) < (wrap64 (t177 - 1)) then (if ((rd_T96 l0_5 a1).f3) > 0 then (if ((rd_T96 l0_5 a1).f3) < (wrap64 (t178 - 1)) then (some 2) else (floor_checkPort.j1 kj15 a1 a0_0 a0_1 a0_2 l0_3 l0_4 l0_5 ((rd_T96 l0_5 a1).f0) ((rd_T96 l0_5 a1).f1) ((rd_T96 l0_5 a1).f2) ((rd_T96 l0_5 a1).f3))) else (floor_checkPort.j1 kj15 a1 a0_0 a0_1 a0_2 l0_3 l0_4 l0_5 ((rd_T96 l0_5 a1).f0) ((rd_T96 l0_5 a1).f1) ((rd_T96 l0_5 a1).f2) ((rd_T96 l0_5 a1).f3))) else (floor_checkPort.j1 kj15 a1 a0_0 a0_1 a0_2 l0_3 l0_4 l0_5 ((rd_T96 l0_5 a1).f0) ((rd_T96 l0_5 a1).f1) ((rd_T96 l0_5 a1).f2) ((rd_T96 l0_5 a1).f3))) else (floor_checkPort.j1 kj15 a1 a0_0 a0_1 a0_2 l0_3 l0_4 l0_5 ((rd_T96 l0_5 a1).f0) ((rd_T96 l0_5 a1).f1) ((rd_T96 l0_5 a1).f2) ((rd_T96 l0_5 a1).f3))) = some r := by rw [if_pos rfl] at H; exact H
                clear H
                have H := H1
                clear H1
                by_cases c29 : ((rd_T96 l0_5 a1).f2) > 0
                · rw [if_pos c29] at H
                  have c29b0 : decide (0 < ((rd_T96 l0_5 a1).f2)) = true := decide_eq_true c29
                  clear c29
                  by_cases c30 : ((rd_T96 l0_5 a1).f2) < (wrap64 (t177 - 1))
                  · rw [if_pos c30] at H
                    have c30b0 : decide (((rd_T96 l0_5 a1).f2) < (wrap64 (t177 - 1))) = true := decide_eq_true c30
                    clear c30
                    by_cases c31 : ((rd_T96 l0_5 a1).f3) > 0
                    · rw [if_pos c31] at H
                      have c31b0 : decide (0 < ((rd_T96 l0_5 a1).f3)) = true := decide_eq_true c31
                      clear c31
                      by_cases c32 : ((rd_T96 l0_5 a1).f3) < (wrap64 (t178 - 1))
                      · rw [if_pos c32] at H
                        have c32b0 : decide (((rd_T96 l0_5 a1).f3) < (wrap64 (t178 - 1))) = true := decide_eq_true c32
                        clear c32
                        obtain rfl := Option.some.inj H
                        have hnb33 := NB176_174.out
                        have hnc33 := NB174_176.out
                        have hcz34_0 : wc.cell? ⟨gb176, 0, none⟩ = some (.string ((rd_T96 l0_5 a1).f0)) := (blk_cell BK176.out 0).trans rfl
                        have hcz34_1 : wc.cell? ⟨gb176, 1, none⟩ = some (.bool ((rd_T96 l0_5 a1).f1)) := (blk_cell BK176.out 1).trans rfl
                        have hcz34_2 : wc.cell? ⟨gb176, 2, none⟩ = some (.int .i64 ((rd_T96 l0_5 a1).f2)) := (blk_cell BK176.out 2).trans rfl
                        have hcz34_3 : wc.cell? ⟨gb176, 3, none⟩ = some (.int .i64 ((rd_T96 l0_5 a1).f3)) := (blk_cell BK176.out 3).trans rfl
                        have hfz34_0 := blk_frozen BK176.out 0
                        have hfz34_1 := blk_frozen BK176.out 1
                        have hfz34_2 := blk_frozen BK176.out 2
                        have hfz34_3 := blk_frozen BK176.out 3
                        go_wp2_with (first | ((with_reducible refine gate_callee (f := 49) rfl ?_); refine goesL_ (some 40) rfl rfl Try.func49 (by kernel_rfl) rfl #[.int .i64 ((rd_T96 l0_5 a1).f2), .int .i64 0, .int .i64 (wrap64 (t177 - 1))] rfl (by (try simp only [List.map_toArray, List.map_cons, List.map_nil]); first | done | rfl | (simp only [List.length_drop, List.length_take]; rfl)) ?_; (with_reducible refine (floor_within.calls ((rd_T96 l0_5 a1).f2) 0 (wrap64 (t177 - 1)) true _ A25.out).mono ?_); rintro e w' ⟨rfl, ⟨nd, rfl⟩⟩; refine ⟨_, rfl, ?_⟩) | (go_at_call 49; (with_reducible refine (floor_within.calls ((rd_T96 l0_5 a1).f3) 0 (wrap64 (t178 - 1)) true _ A27.out).mono ?_); rintro e w' ⟨rfl, ⟨nd, rfl⟩⟩))
                        go_ret
                        exact ⟨by first | rfl | (simp [errW_none, errW_some] <;> rfl) | (simp [*, errW_none, errW_some] <;> rfl), by repeat (first | (with_reducible first | exact HB.out | apply below_alloc | apply pw_below_drewN | apply below_drew1 | refine below_set ?_ GE174.out | refine below_set ?_ GE176.out) | exact HB.out)⟩
                      · rw [if_neg c32] at H
                        have c32b0 : decide (((rd_T96 l0_5 a1).f3) < (wrap64 (t178 - 1))) = false := decide_eq_false c32
                        clear c32
                        have H' := Aside0.mk H
                        clear H
                        have hnb35 := NB176_174.out
                        have hnc35 := NB174_176.out
                        have hcz36_0 : wc.cell? ⟨gb176, 0, none⟩ = some (.string ((rd_T96 l0_5 a1).f0)) := (blk_cell BK176.out 0).trans rfl
                        have hcz36_1 : wc.cell? ⟨gb176, 1, none⟩ = some (.bool ((rd_T96 l0_5 a1).f1)) := (blk_cell BK176.out 1).trans rfl
                        have hcz36_2 : wc.cell? ⟨gb176, 2, none⟩ = some (.int .i64 ((rd_T96 l0_5 a1).f2)) := (blk_cell BK176.out 2).trans rfl
                        have hcz36_3 : wc.cell? ⟨gb176, 3, none⟩ = some (.int .i64 ((rd_T96 l0_5 a1).f3)) := (blk_cell BK176.out 3).trans rfl
                        have hfz36_0 := blk_frozen BK176.out 0
                        have hfz36_1 := blk_frozen BK176.out 1
                        have hfz36_2 := blk_frozen BK176.out 2
                        have hfz36_3 := blk_frozen BK176.out 3
                        go_wp2_with (first | ((with_reducible refine gate_callee (f := 49) rfl ?_); refine goesL_ (some 40) rfl rfl Try.func49 (by kernel_rfl) rfl #[.int .i64 ((rd_T96 l0_5 a1).f2), .int .i64 0, .int .i64 (wrap64 (t177 - 1))] rfl (by (try simp only [List.map_toArray, List.map_cons, List.map_nil]); first | done | rfl | (simp only [List.length_drop, List.length_take]; rfl)) ?_; (with_reducible refine (floor_within.calls ((rd_T96 l0_5 a1).f2) 0 (wrap64 (t177 - 1)) true _ A25.out).mono ?_); rintro e w' ⟨rfl, ⟨nd, rfl⟩⟩; refine ⟨_, rfl, ?_⟩) | (go_at_call 49; (with_reducible refine (floor_within.calls ((rd_T96 l0_5 a1).f3) 0 (wrap64 (t178 - 1)) true _ A27.out).mono ?_); rintro e w' ⟨rfl, ⟨nd, rfl⟩⟩))
                        go_meet
                        case rel => exact ⟨_, H', ⟨by have := HJ15.out; first | omega | exact Nat.le_refl _⟩, ⟨by (with_reducible repeat (first | refine blk_drewN ?_ _ | refine blk_drew ?_ | refine blk_alloc ?_ _)); exact BK174.out⟩, ⟨by (with_reducible repeat (first | refine blk_drewN ?_ _ | refine blk_drew ?_ | refine blk_alloc ?_ _)); exact BK176.out⟩, ⟨by repeat (first | (with_reducible first | exact HB.out | apply below_alloc | apply pw_below_drewN | apply below_drew1 | refine below_set ?_ GE174.out | refine below_set ?_ GE176.out) | exact HB.out)⟩⟩
                    · rw [if_neg c31] at H
                      have c31b0 : decide (0 < ((rd_T96 l0_5 a1).f3)) = false := decide_eq_false c31
                      clear c31
                      have H' := Aside0.mk H
                      clear H
                      have hnb37 := NB176_174.out
                      have hnc37 := NB174_176.out
                      have hcz38_0 : wc.cell? ⟨gb176, 0, none⟩ = some (.string ((rd_T96 l0_5 a1).f0)) := (blk_cell BK176.out 0).trans rfl
                      have hcz38_1 : wc.cell? ⟨gb176, 1, none⟩ = some (.bool ((rd_T96 l0_5 a1).f1)) := (blk_cell BK176.out 1).trans rfl
                      have hcz38_2 : wc.cell? ⟨gb176, 2, none⟩ = some (.int .i64 ((rd_T96 l0_5 a1).f2)) := (blk_cell BK176.out 2).trans rfl
                      have hcz38_3 : wc.cell? ⟨gb176, 3, none⟩ = some (.int .i64 ((rd_T96 l0_5 a1).f3)) := (blk_cell BK176.out 3).trans rfl
                      have hfz38_0 := blk_frozen BK176.out 0
                      have hfz38_1 := blk_frozen BK176.out 1
                      have hfz38_2 := blk_frozen BK176.out 2
                      have hfz38_3 := blk_frozen BK176.out 3
                      go_wp2_with (first | ((with_reducible refine gate_callee (f := 49) rfl ?_); refine goesL_ (some 40) rfl rfl Try.func49 (by kernel_rfl) rfl #[.int .i64 ((rd_T96 l0_5 a1).f2), .int .i64 0, .int .i64 (wrap64 (t177 - 1))] rfl (by (try simp only [List.map_toArray, List.map_cons, List.map_nil]); first | done | rfl | (simp only [List.length_drop, List.length_take]; rfl)) ?_; (with_reducible refine (floor_within.calls ((rd_T96 l0_5 a1).f2) 0 (wrap64 (t177 - 1)) true _ A25.out).mono ?_); rintro e w' ⟨rfl, ⟨nd, rfl⟩⟩; refine ⟨_, rfl, ?_⟩) | (go_at_call 49; (with_reducible refine (floor_within.calls ((rd_T96 l0_5 a1).f3) 0 (wrap64 (t178 - 1)) true _ A27.out).mono ?_); rintro e w' ⟨rfl, ⟨nd, rfl⟩⟩))
                      go_meet
                      case rel => exact ⟨_, H', ⟨by have := HJ15.out; first | omega | exact Nat.le_refl _⟩, ⟨by (with_reducible repeat (first | refine blk_drewN ?_ _ | refine blk_drew ?_ | refine blk_alloc ?_ _)); exact BK174.out⟩, ⟨by (with_reducible repeat (first | refine blk_drewN ?_ _ | refine blk_drew ?_ | refine blk_alloc ?_ _)); exact BK176.out⟩, ⟨by repeat (first | (with_reducible first | exact HB.out | apply below_alloc | apply pw_below_drewN | apply below_drew1 | refine below_set ?_ GE174.out | refine below_set ?_ GE176.out) | exact HB.out)⟩⟩
                  · rw [if_neg c30] at H
                    have c30b0 : decide (((rd_T96 l0_5 a1).f2) < (wrap64 (t177 - 1))) = false := decide_eq_false c30
                    clear c30
                    have H' := Aside0.mk H
                    clear H
                    have hnb39 := NB176_174.out
                    have hnc39 := NB174_176.out
                    have hcz40_0 : wc.cell? ⟨gb176, 0, none⟩ = some (.string ((rd_T96 l0_5 a1).f0)) := (blk_cell BK176.out 0).trans rfl
                    have hcz40_1 : wc.cell? ⟨gb176, 1, none⟩ = some (.bool ((rd_T96 l0_5 a1).f1)) := (blk_cell BK176.out 1).trans rfl
                    have hcz40_2 : wc.cell? ⟨gb176, 2, none⟩ = some (.int .i64 ((rd_T96 l0_5 a1).f2)) := (blk_cell BK176.out 2).trans rfl
                    have hcz40_3 : wc.cell? ⟨gb176, 3, none⟩ = some (.int .i64 ((rd_T96 l0_5 a1).f3)) := (blk_cell BK176.out 3).trans rfl
                    have hfz40_0 := blk_frozen BK176.out 0
                    have hfz40_1 := blk_frozen BK176.out 1
                    have hfz40_2 := blk_frozen BK176.out 2
                    have hfz40_3 := blk_frozen BK176.out 3
                    go_wp2_with (first | ((with_reducible refine gate_callee (f := 49) rfl ?_); refine goesL_ (some 40) rfl rfl Try.func49 (by kernel_rfl) rfl #[.int .i64 ((rd_T96 l0_5 a1).f2), .int .i64 0, .int .i64 (wrap64 (t177 - 1))] rfl (by (try simp only [List.map_toArray, List.map_cons, List.map_nil]); first | done | rfl | (simp only [List.length_drop, List.length_take]; rfl)) ?_; (with_reducible refine (floor_within.calls ((rd_T96 l0_5 a1).f2) 0 (wrap64 (t177 - 1)) true _ A25.out).mono ?_); rintro e w' ⟨rfl, ⟨nd, rfl⟩⟩; refine ⟨_, rfl, ?_⟩) | (go_at_call 49; (with_reducible refine (floor_within.calls ((rd_T96 l0_5 a1).f3) 0 (wrap64 (t178 - 1)) true _ A27.out).mono ?_); rintro e w' ⟨rfl, ⟨nd, rfl⟩⟩))
                    go_meet
                    case rel => exact ⟨_, H', ⟨by have := HJ15.out; first | omega | exact Nat.le_refl _⟩, ⟨by (with_reducible repeat (first | refine blk_drewN ?_ _ | refine blk_drew ?_ | refine blk_alloc ?_ _)); exact BK174.out⟩, ⟨by (with_reducible repeat (first | refine blk_drewN ?_ _ | refine blk_drew ?_ | refine blk_alloc ?_ _)); exact BK176.out⟩, ⟨by repeat (first | (with_reducible first | exact HB.out | apply below_alloc | apply pw_below_drewN | apply below_drew1 | refine below_set ?_ GE174.out | refine below_set ?_ GE176.out) | exact HB.out)⟩⟩
                · rw [if_neg c29] at H
                  have c29b0 : decide (0 < ((rd_T96 l0_5 a1).f2)) = false := decide_eq_false c29
                  clear c29
                  have H' := Aside0.mk H
                  clear H
                  have hnb41 := NB176_174.out
                  have hnc41 := NB174_176.out
                  have hcz42_0 : wc.cell? ⟨gb176, 0, none⟩ = some (.string ((rd_T96 l0_5 a1).f0)) := (blk_cell BK176.out 0).trans rfl
                  have hcz42_1 : wc.cell? ⟨gb176, 1, none⟩ = some (.bool ((rd_T96 l0_5 a1).f1)) := (blk_cell BK176.out 1).trans rfl
                  have hcz42_2 : wc.cell? ⟨gb176, 2, none⟩ = some (.int .i64 ((rd_T96 l0_5 a1).f2)) := (blk_cell BK176.out 2).trans rfl
                  have hcz42_3 : wc.cell? ⟨gb176, 3, none⟩ = some (.int .i64 ((rd_T96 l0_5 a1).f3)) := (blk_cell BK176.out 3).trans rfl
                  have hfz42_0 := blk_frozen BK176.out 0
                  have hfz42_1 := blk_frozen BK176.out 1
                  have hfz42_2 := blk_frozen BK176.out 2
                  have hfz42_3 := blk_frozen BK176.out 3
                  go_wp2_with (first | ((with_reducible refine gate_callee (f := 49) rfl ?_); refine goesL_ (some 40) rfl rfl Try.func49 (by kernel_rfl) rfl #[.int .i64 ((rd_T96 l0_5 a1).f2), .int .i64 0, .int .i64 (wrap64 (t177 - 1))] rfl (by (try simp only [List.map_toArray, List.map_cons, List.map_nil]); first | done | rfl | (simp only [List.length_drop, List.length_take]; rfl)) ?_; (with_reducible refine (floor_within.calls ((rd_T96 l0_5 a1).f2) 0 (wrap64 (t177 - 1)) true _ A25.out).mono ?_); rintro e w' ⟨rfl, ⟨nd, rfl⟩⟩; refine ⟨_, rfl, ?_⟩) | (go_at_call 49; (with_reducible refine (floor_within.calls ((rd_T96 l0_5 a1).f3) 0 (wrap64 (t178 - 1)) true _ A27.out).mono ?_); rintro e w' ⟨rfl, ⟨nd, rfl⟩⟩))
                  go_meet
                  case rel => exact ⟨_, H', ⟨by have := HJ15.out; first | omega | exact Nat.le_refl _⟩, ⟨by (with_reducible repeat (first | refine blk_drewN ?_ _ | refine blk_drew ?_ | refine blk_alloc ?_ _)); exact BK174.out⟩, ⟨by (with_reducible repeat (first | refine blk_drewN ?_ _ | refine blk_drew ?_ | refine blk_alloc ?_ _)); exact BK176.out⟩, ⟨by repeat (first | (with_reducible first | exact HB.out | apply below_alloc | apply pw_below_drewN | apply below_drew1 | refine below_set ?_ GE174.out | refine below_set ?_ GE176.out) | exact HB.out)⟩⟩
              · replace c28 := Bool.eq_false_iff.mpr c28
                subst c28
                have H1 : (some 2) = some r := by rw [if_neg (show ¬ (false = true) by decide)] at H; exact H
                clear H
                have H := H1
                clear H1
                obtain rfl := Option.some.inj H
                have hnb43 := NB176_174.out
                have hnc43 := NB174_176.out
                have hcz44_0 : wc.cell? ⟨gb176, 0, none⟩ = some (.string ((rd_T96 l0_5 a1).f0)) := (blk_cell BK176.out 0).trans rfl
                have hcz44_1 : wc.cell? ⟨gb176, 1, none⟩ = some (.bool ((rd_T96 l0_5 a1).f1)) := (blk_cell BK176.out 1).trans rfl
                have hcz44_2 : wc.cell? ⟨gb176, 2, none⟩ = some (.int .i64 ((rd_T96 l0_5 a1).f2)) := (blk_cell BK176.out 2).trans rfl
                have hcz44_3 : wc.cell? ⟨gb176, 3, none⟩ = some (.int .i64 ((rd_T96 l0_5 a1).f3)) := (blk_cell BK176.out 3).trans rfl
                have hfz44_0 := blk_frozen BK176.out 0
                have hfz44_1 := blk_frozen BK176.out 1
                have hfz44_2 := blk_frozen BK176.out 2
                have hfz44_3 := blk_frozen BK176.out 3
                go_wp2_with (first | ((with_reducible refine gate_callee (f := 49) rfl ?_); refine goesL_ (some 40) rfl rfl Try.func49 (by kernel_rfl) rfl #[.int .i64 ((rd_T96 l0_5 a1).f2), .int .i64 0, .int .i64 (wrap64 (t177 - 1))] rfl (by (try simp only [List.map_toArray, List.map_cons, List.map_nil]); first | done | rfl | (simp only [List.length_drop, List.length_take]; rfl)) ?_; (with_reducible refine (floor_within.calls ((rd_T96 l0_5 a1).f2) 0 (wrap64 (t177 - 1)) true _ A25.out).mono ?_); rintro e w' ⟨rfl, ⟨nd, rfl⟩⟩; refine ⟨_, rfl, ?_⟩) | (go_at_call 49; (with_reducible refine (floor_within.calls ((rd_T96 l0_5 a1).f3) 0 (wrap64 (t178 - 1)) false _ A27.out).mono ?_); rintro e w' ⟨rfl, ⟨nd, rfl⟩⟩))
                go_ret
                exact ⟨by first | rfl | (simp [errW_none, errW_some] <;> rfl) | (simp [*, errW_none, errW_some] <;> rfl), by repeat (first | (with_reducible first | exact HB.out | apply below_alloc | apply pw_below_drewN | apply below_drew1 | refine below_set ?_ GE174.out | refine below_set ?_ GE176.out) | exact HB.out)⟩
            · replace c26 := Bool.eq_false_iff.mpr c26
              subst c26
              have H1 : (some 2) = some r := by rw [if_neg (show ¬ (false = true) by decide)] at H; exact H
              clear H
              have H := H1
              clear H1
              obtain rfl := Option.some.inj H
              have hnb45 := NB176_174.out
              have hnc45 := NB174_176.out
              have hcz46_0 : wc.cell? ⟨gb176, 0, none⟩ = some (.string ((rd_T96 l0_5 a1).f0)) := (blk_cell BK176.out 0).trans rfl
              have hcz46_1 : wc.cell? ⟨gb176, 1, none⟩ = some (.bool ((rd_T96 l0_5 a1).f1)) := (blk_cell BK176.out 1).trans rfl
              have hcz46_2 : wc.cell? ⟨gb176, 2, none⟩ = some (.int .i64 ((rd_T96 l0_5 a1).f2)) := (blk_cell BK176.out 2).trans rfl
              have hcz46_3 : wc.cell? ⟨gb176, 3, none⟩ = some (.int .i64 ((rd_T96 l0_5 a1).f3)) := (blk_cell BK176.out 3).trans rfl
              have hfz46_0 := blk_frozen BK176.out 0
              have hfz46_1 := blk_frozen BK176.out 1
              have hfz46_2 := blk_frozen BK176.out 2
              have hfz46_3 := blk_frozen BK176.out 3
              go_wp2_with (first | ((with_reducible refine gate_callee (f := 49) rfl ?_); refine goesL_ (some 40) rfl rfl Try.func49 (by kernel_rfl) rfl #[.int .i64 ((rd_T96 l0_5 a1).f2), .int .i64 0, .int .i64 (wrap64 (t177 - 1))] rfl (by (try simp only [List.map_toArray, List.map_cons, List.map_nil]); first | done | rfl | (simp only [List.length_drop, List.length_take]; rfl)) ?_; (with_reducible refine (floor_within.calls ((rd_T96 l0_5 a1).f2) 0 (wrap64 (t177 - 1)) false _ A25.out).mono ?_); rintro e w' ⟨rfl, ⟨nd, rfl⟩⟩; refine ⟨_, rfl, ?_⟩))
              go_ret
              exact ⟨by first | rfl | (simp [errW_none, errW_some] <;> rfl) | (simp [*, errW_none, errW_some] <;> rfl), by repeat (first | (with_reducible first | exact HB.out | apply below_alloc | apply pw_below_drewN | apply below_drew1 | refine below_set ?_ GE174.out | refine below_set ?_ GE176.out) | exact HB.out)⟩
      · replace c15 := Bool.eq_false_iff.mpr c15
        subst c15
        have H1 : (some 9) = some r := by rw [if_neg (show ¬ (false = true) by decide)] at H; exact H
        clear H
        have H := H1
        clear H1
        obtain rfl := Option.some.inj H
        have hnb47 := NB176_174.out
        have hnc47 := NB174_176.out
        have hcz48_0 : w13.cell? ⟨gb176, 0, none⟩ = some (.string ((rd_T96 l0_5 a1).f0)) := (blk_cell BK176.out 0).trans rfl
        have hcz48_1 : w13.cell? ⟨gb176, 1, none⟩ = some (.bool ((rd_T96 l0_5 a1).f1)) := (blk_cell BK176.out 1).trans rfl
        have hcz48_2 : w13.cell? ⟨gb176, 2, none⟩ = some (.int .i64 ((rd_T96 l0_5 a1).f2)) := (blk_cell BK176.out 2).trans rfl
        have hcz48_3 : w13.cell? ⟨gb176, 3, none⟩ = some (.int .i64 ((rd_T96 l0_5 a1).f3)) := (blk_cell BK176.out 3).trans rfl
        have hfz48_0 := blk_frozen BK176.out 0
        have hfz48_1 := blk_frozen BK176.out 1
        have hfz48_2 := blk_frozen BK176.out 2
        have hfz48_3 := blk_frozen BK176.out 3
        go_wp2_with (first | ((with_reducible refine gate_callee (f := 58) rfl ?_); refine goesL_ (some 25) rfl rfl Try.func58 (by kernel_rfl) rfl #[.string ((rd_T96 l0_5 a1).f0)] rfl (by (try simp only [List.map_toArray, List.map_cons, List.map_nil]); first | done | rfl | (simp only [List.length_drop, List.length_take]; rfl)) ?_; (with_reducible refine (floor_validName.calls k ((rd_T96 l0_5 a1).f0) false _ A14.out).mono ?_); rintro e w' ⟨rfl, ⟨nd, rfl⟩⟩; refine ⟨_, rfl, ?_⟩))
        go_ret
        exact ⟨by first | rfl | (simp [errW_none, errW_some] <;> rfl) | (simp [*, errW_none, errW_some] <;> rfl), by repeat (first | (with_reducible first | exact HB.out | apply below_alloc | apply pw_below_drewN | apply below_drew1 | refine below_set ?_ GE174.out | refine below_set ?_ GE176.out) | exact HB.out)⟩
     case rest =>
      clear HC6
      try clear c1
      try clear p1
      try clear q1
      try clear hx1
      try clear c2
      try clear p2
      try clear c3
      try clear c3b0
      try clear c4
      try clear c4b0
      try clear c5
      try clear p6
      try clear c10
      try clear c15
      try clear c17
      try clear p17
      try clear q17
      try clear hx17
      try clear c19
      try clear c19b0
      try clear c19b1
      try clear c20
      try clear c22
      try clear c24
      try clear c26
      try clear c27
      try clear c28
      try clear c29
      try clear c29b0
      try clear c30
      try clear c30b0
      try clear c31
      try clear c31b0
      try clear c32
      try clear c32b0
      try clear c33
      try clear c35
      try clear c37
      try clear c39
      try clear c41
      try clear c43
      try clear c45
      try clear c47
      try clear hcz11_0
      try clear hcz11_1
      try clear hcz11_2
      try clear hcz11_3
      try clear hcz12_0
      try clear hcz12_1
      try clear hcz12_2
      try clear hcz12_3
      try clear hcz12_4
      try clear hcz12_5
      try clear hcz18_0
      try clear hcz18_1
      try clear hcz18_2
      try clear hcz18_3
      try clear hcz21_0
      try clear hcz21_1
      try clear hcz21_2
      try clear hcz21_3
      try clear hcz23_0
      try clear hcz23_1
      try clear hcz23_2
      try clear hcz23_3
      try clear hcz34_0
      try clear hcz34_1
      try clear hcz34_2
      try clear hcz34_3
      try clear hcz36_0
      try clear hcz36_1
      try clear hcz36_2
      try clear hcz36_3
      try clear hcz38_0
      try clear hcz38_1
      try clear hcz38_2
      try clear hcz38_3
      try clear hcz40_0
      try clear hcz40_1
      try clear hcz40_2
      try clear hcz40_3
      try clear hcz42_0
      try clear hcz42_1
      try clear hcz42_2
      try clear hcz42_3
      try clear hcz44_0
      try clear hcz44_1
      try clear hcz44_2
      try clear hcz44_3
      try clear hcz46_0
      try clear hcz46_1
      try clear hcz46_2
      try clear hcz46_3
      try clear hcz48_0
      try clear hcz48_1
      try clear hcz48_2
      try clear hcz48_3
      try clear hcz8_0
      try clear hcz8_1
      try clear hcz8_2
      try clear hcz8_3
      try clear hcz8_4
      try clear hcz8_5
      try clear hfz11_0
      try clear hfz11_1
      try clear hfz11_2
      try clear hfz11_3
      try clear hfz12_0
      try clear hfz12_1
      try clear hfz12_2
      try clear hfz12_3
      try clear hfz12_4
      try clear hfz12_5
      try clear hfz18_0
      try clear hfz18_1
      try clear hfz18_2
      try clear hfz18_3
      try clear hfz21_0
      try clear hfz21_1
      try clear hfz21_2
      try clear hfz21_3
      try clear hfz23_0
      try clear hfz23_1
      try clear hfz23_2
      try clear hfz23_3
      try clear hfz34_0
      try clear hfz34_1
      try clear hfz34_2
      try clear hfz34_3
      try clear hfz36_0
      try clear hfz36_1
      try clear hfz36_2
      try clear hfz36_3
      try clear hfz38_0
      try clear hfz38_1
      try clear hfz38_2
      try clear hfz38_3
      try clear hfz40_0
      try clear hfz40_1
      try clear hfz40_2
      try clear hfz40_3
      try clear hfz42_0
      try clear hfz42_1
      try clear hfz42_2
      try clear hfz42_3
      try clear hfz44_0
      try clear hfz44_1
      try clear hfz44_2
      try clear hfz44_3
      try clear hfz46_0
      try clear hfz46_1
      try clear hfz46_2
      try clear hfz46_3
      try clear hfz48_0
      try clear hfz48_1
      try clear hfz48_2
      try clear hfz48_3
      try clear hfz8_0
      try clear hfz8_1
      try clear hfz8_2
      try clear hfz8_3
      try clear hfz8_4
      try clear hfz8_5
      try clear hx175_0
      try clear hx175_1
      try clear hx175_2
      try clear hx175_3
      try clear p1
      try clear p17
      try clear p175
      try clear p2
      try clear q1
      try clear q17
      try clear q175
      obtain ⟨kq, HA, HJ5, BK174, BK176, HB⟩ := hcut
      cases kq with
      | zero => exact absurd HA.out (by simp [floor_checkPort.j1])
      | succ kj5 =>
       have H := HA.out
       clear HA
       simp only [floor_checkPort.j1] at H
       by_cases c49 : 0 ≤ a1
       · rw [if_pos c49] at H
         have c49b0 := eq_true c49
         have c49b1 : decide (0 ≤ a1) = true := decide_eq_true c49
         clear c49
         by_cases c50 : a1 ≤ (l0_5.length : Int)
         · rw [if_pos c50] at H
           have c50b0 := eq_true c50
           have c50b1 : decide (a1 ≤ (l0_5.length : Int)) = true := decide_eq_true c50
           clear c50
           obtain ⟨y182, hy182⟩ : ∃ y_ : List (S96), y_ = (l0_5.take (a1 : Int).toNat) := ⟨_, rfl⟩
           replace H : (floor_checkPort.l0 kj5 y182 (y182.length : Int) 0 a0_0 a0_1 a0_2 l0_3 l0_4 l0_5 ((rd_T96 l0_5 a1).f0) ((rd_T96 l0_5 a1).f1) ((rd_T96 l0_5 a1).f2) ((rd_T96 l0_5 a1).f3)) = some r := by first | (rw [hy182]; with_reducible exact H) | (have H2_ := (Option.bind_some _ _).symm.trans H; rw [hy182]; with_reducible exact H2_) | (have H2_ := (Option.bind_some _ _).symm.trans H; with_reducible exact H2_) | with_reducible exact H | (rw [hy182]; exact H) | exact H
           have Ny182 := Aside0.mk hy182
           clear hy182
           have H' := Aside0.mk H
           clear H
           have hnb51 := NB174_176.out
           have hnc51 := NB176_174.out
           have hcz52_0 : wc.cell? ⟨gb174, 0, none⟩ = some (.int .i64 a0_0) := (blk_cell BK174.out 0).trans rfl
           have hcz52_1 : wc.cell? ⟨gb174, 1, none⟩ = some (.int .i64 a0_1) := (blk_cell BK174.out 1).trans rfl
           have hcz52_2 : wc.cell? ⟨gb174, 2, none⟩ = some (.int .i64 a0_2) := (blk_cell BK174.out 2).trans rfl
           have hcz52_3 : wc.cell? ⟨gb174, 3, none⟩ = some (.slice A0_3 l0_3.length c0_3) := (blk_cell BK174.out 3).trans rfl
           have hcz52_4 : wc.cell? ⟨gb174, 4, none⟩ = some (.slice A0_4 l0_4.length c0_4) := (blk_cell BK174.out 4).trans rfl
           have hcz52_5 : wc.cell? ⟨gb174, 5, none⟩ = some (.slice (some ad175) l0_5.length c0_5) := (blk_cell BK174.out 5).trans rfl
           have hfz52_0 := blk_frozen BK174.out 0
           have hfz52_1 := blk_frozen BK174.out 1
           have hfz52_2 := blk_frozen BK174.out 2
           have hfz52_3 := blk_frozen BK174.out 3
           have hfz52_4 := blk_frozen BK174.out 4
           have hfz52_5 := blk_frozen BK174.out 5
           have q53 : (a1 : Int) ≤ ((l0_5.length : Int) : Int) := of_decide_eq_true (by first | (with_reducible assumption) | assumption)
           obtain ⟨i053, hi053, _, hsz53, _⟩ := info_parts info96
           have hroom53 : l0_5.length ≤ c0_5 := HC0_5.out
           have hC53 : Kd.C k96 _ (some ad175) l0_5.length l0_5 := HR0_5.out
           have hcut53 := cut_to (P := Try.prog) 55 96 .i64 Try.underlying55 hi053 (some ad175) l0_5.length c0_5 a1 (of_decide_eq_true (by first | (with_reducible assumption) | assumption)) q53 hroom53
           have hr53 := Kd.C_take (m := (a1 : Int).toNat) hC53 (by omega)
           have hy53 : y182.length = (a1 : Int).toNat := (by rw [Ny182.out, List.length_take]; omega)
           rw [← Ny182.out] at hr53
           rw [← hy53] at hcut53
           have HR185 := Aside0.mk hr53
           have HC185 := Aside0.mk (show y182.length ≤ c0_5 from by omega)
           clear hr53 hC53 hroom53 hi053 hsz53
           have KY53 := Aside0.mk hy53
           clear hy53
           replace q53 := eq_true q53
           go_wp2
           go_loopg [79] kj5 (fun kq v79 w' => ∃ (x79_2 : Int), v79 = .int .i64 x79_2 ∧ Aside0 (floor_checkPort.l0 kq y182 (y182.length : Int) x79_2 a0_0 a0_1 a0_2 l0_3 l0_4 l0_5 ((rd_T96 l0_5 a1).f0) ((rd_T96 l0_5 a1).f1) ((rd_T96 l0_5 a1).f2) ((rd_T96 l0_5 a1).f3) = some r) ∧ Aside0 (kq ≤ kj5) ∧ Aside0 (w'.heap[gb174]? = some (.cells #[.int .i64 a0_0, .int .i64 a0_1, .int .i64 a0_2, (.slice A0_3 l0_3.length c0_3), (.slice A0_4 l0_4.length c0_4), (.slice (some ad175) l0_5.length c0_5)] 57 (0, 0))) ∧ Aside0 (w'.heap[gb176]? = some (.cells #[.string ((rd_T96 l0_5 a1).f0), .bool ((rd_T96 l0_5 a1).f1), .int .i64 ((rd_T96 l0_5 a1).f2), .int .i64 ((rd_T96 l0_5 a1).f3)] 96 (0, 0))) ∧ Aside0 (Below w.heap.size w w'))
           case atStart => exact ⟨(0), (by first | rfl | (simp; done) | (simp [*]; done)), H', ⟨Nat.le_refl _⟩, ⟨by (with_reducible repeat (first | refine blk_drewN ?_ _ | refine blk_drew ?_ | refine blk_alloc ?_ _)); exact BK174.out⟩, ⟨by (with_reducible repeat (first | refine blk_drewN ?_ _ | refine blk_drew ?_ | refine blk_alloc ?_ _)); exact BK176.out⟩, ⟨by repeat (first | (with_reducible first | exact HB.out | apply below_alloc | apply pw_below_drewN | apply below_drew1 | refine below_set ?_ GE174.out | refine below_set ?_ GE176.out) | exact HB.out)⟩⟩
           case round =>
            clear H'
            try clear c1
            try clear p1
            try clear q1
            try clear hx1
            try clear c2
            try clear p2
            try clear c3
            try clear c3b0
            try clear c4
            try clear c4b0
            try clear c5
            try clear q5
            try clear p6
            try clear c10
            try clear c15
            try clear c17
            try clear p17
            try clear q17
            try clear hx17
            try clear c19
            try clear c19b0
            try clear c19b1
            try clear c20
            try clear c22
            try clear c24
            try clear c26
            try clear c27
            try clear c28
            try clear c29
            try clear c29b0
            try clear c30
            try clear c30b0
            try clear c31
            try clear c31b0
            try clear c32
            try clear c32b0
            try clear c33
            try clear c35
            try clear c37
            try clear c39
            try clear c41
            try clear c43
            try clear c45
            try clear c47
            try clear c49
            try clear c49b0
            try clear c49b1
            try clear c50
            try clear c50b0
            try clear c50b1
            try clear c51
            try clear q53
            try clear hcz11_0
            try clear hcz11_1
            try clear hcz11_2
            try clear hcz11_3
            try clear hcz12_0
            try clear hcz12_1
            try clear hcz12_2
            try clear hcz12_3
            try clear hcz12_4
            try clear hcz12_5
            try clear hcz18_0
            try clear hcz18_1
            try clear hcz18_2
            try clear hcz18_3
            try clear hcz21_0
            try clear hcz21_1
            try clear hcz21_2
            try clear hcz21_3
            try clear hcz23_0
            try clear hcz23_1
            try clear hcz23_2
            try clear hcz23_3
            try clear hcz34_0
            try clear hcz34_1
            try clear hcz34_2
            try clear hcz34_3
            try clear hcz36_0
            try clear hcz36_1
            try clear hcz36_2
            try clear hcz36_3
            try clear hcz38_0
            try clear hcz38_1
            try clear hcz38_2
            try clear hcz38_3
            try clear hcz40_0
            try clear hcz40_1
            try clear hcz40_2
            try clear hcz40_3
            try clear hcz42_0
            try clear hcz42_1
            try clear hcz42_2
            try clear hcz42_3
            try clear hcz44_0
            try clear hcz44_1
            try clear hcz44_2
            try clear hcz44_3
            try clear hcz46_0
            try clear hcz46_1
            try clear hcz46_2
            try clear hcz46_3
            try clear hcz48_0
            try clear hcz48_1
            try clear hcz48_2
            try clear hcz48_3
            try clear hcz52_0
            try clear hcz52_1
            try clear hcz52_2
            try clear hcz52_3
            try clear hcz52_4
            try clear hcz52_5
            try clear hcz8_0
            try clear hcz8_1
            try clear hcz8_2
            try clear hcz8_3
            try clear hcz8_4
            try clear hcz8_5
            try clear hfz11_0
            try clear hfz11_1
            try clear hfz11_2
            try clear hfz11_3
            try clear hfz12_0
            try clear hfz12_1
            try clear hfz12_2
            try clear hfz12_3
            try clear hfz12_4
            try clear hfz12_5
            try clear hfz18_0
            try clear hfz18_1
            try clear hfz18_2
            try clear hfz18_3
            try clear hfz21_0
            try clear hfz21_1
            try clear hfz21_2
            try clear hfz21_3
            try clear hfz23_0
            try clear hfz23_1
            try clear hfz23_2
            try clear hfz23_3
            try clear hfz34_0
            try clear hfz34_1
            try clear hfz34_2
            try clear hfz34_3
            try clear hfz36_0
            try clear hfz36_1
            try clear hfz36_2
            try clear hfz36_3
            try clear hfz38_0
            try clear hfz38_1
            try clear hfz38_2
            try clear hfz38_3
            try clear hfz40_0
            try clear hfz40_1
            try clear hfz40_2
            try clear hfz40_3
            try clear hfz42_0
            try clear hfz42_1
            try clear hfz42_2
            try clear hfz42_3
            try clear hfz44_0
            try clear hfz44_1
            try clear hfz44_2
            try clear hfz44_3
            try clear hfz46_0
            try clear hfz46_1
            try clear hfz46_2
            try clear hfz46_3
            try clear hfz48_0
            try clear hfz48_1
            try clear hfz48_2
            try clear hfz48_3
            try clear hfz52_0
            try clear hfz52_1
            try clear hfz52_2
            try clear hfz52_3
            try clear hfz52_4
            try clear hfz52_5
            try clear hfz8_0
            try clear hfz8_1
            try clear hfz8_2
            try clear hfz8_3
            try clear hfz8_4
            try clear hfz8_5
            try clear hx175_0
            try clear hx175_1
            try clear hx175_2
            try clear hx175_3
            try clear p1
            try clear p17
            try clear p175
            try clear p2
            try clear p6
            try clear q1
            try clear q17
            try clear q175
            try clear q53
            obtain ⟨x79_2, rfl, HA, HK2, BK174, BK176, HB⟩ := hrel
            cases gk with
            | zero => exact absurd HA.out (by simp [floor_checkPort.l0])
            | succ k2 =>
             have H := HA.out
             clear HA
             simp only [floor_checkPort.l0] at H
             by_cases c54 : x79_2 < (y182.length : Int)
             · rw [if_pos c54] at H
               have c54b0 : decide (x79_2 < (y182.length : Int)) = true := decide_eq_true c54
               clear c54
               by_cases c55 : 0 ≤ x79_2
               · rw [if_pos c55] at H
                 have c55b0 : decide (0 ≤ x79_2) = true := decide_eq_true c55
                 clear c55
                 by_cases c56 : x79_2 < (y182.length : Int)
                 · rw [if_pos c56] at H
                   have c56b0 : decide (x79_2 < (y182.length : Int)) = true := decide_eq_true c56
                   clear c56
                   have HC57 := Aside0.mk H
                   clear H
                   have p186 : 0 ≤ (x79_2 : Int) := of_decide_eq_true (by first | (with_reducible assumption) | assumption)
                   have q186 : x79_2 < (y182.length : Int) := of_decide_eq_true (by first | (with_reducible assumption) | assumption)
                   obtain ⟨ad186, e186, hx186_0, hx186_1, hx186_2, hx186_3⟩ := at_T96 HR185.out x79_2 p186 q186
                   obtain rfl : ad175 = ad186 := (by injection e186)
                   replace hx186_0 := (HB.out.cell (World.block_lt_of_cell? w _ hx186_0)).trans hx186_0
                   replace hx186_1 := (HB.out.cell (World.block_lt_of_cell? w _ hx186_1)).trans hx186_1
                   replace hx186_2 := (HB.out.cell (World.block_lt_of_cell? w _ hx186_2)).trans hx186_2
                   replace hx186_3 := (HB.out.cell (World.block_lt_of_cell? w _ hx186_3)).trans hx186_3
                   replace p186 := eq_true p186
                   replace q186 := eq_true q186
                   go_upto_region 12 with (first | ((with_reducible refine gate_dst (N := 9) rfl ?_); refine box_event ?hg (N := 9) ?hd (cs := #[.string (⟨#[]⟩ : ByteArray), .bool false, .int .i64 0, .int .i64 0]) (t := 96) ?hr ?_; (case hd => rfl); (case hg => rfl); (case hr => first | (go_simp; done) | (go_simp; rfl)); intro gb187 hg w58 hbox hb; have n0_ := Aside0.mk (blk_below (g := gb174) (o := .cells #[.int .i64 a0_0, .int .i64 a0_1, .int .i64 a0_2, .slice A0_3 l0_3.length c0_3, .slice A0_4 l0_4.length c0_4, .slice (some ad175) l0_5.length c0_5] 57 (0, 0)) (by (with_reducible repeat (first | refine blk_drewN ?_ _ | refine blk_drew ?_ | refine blk_alloc ?_ _)); exact BK174.out) hb); have n1_ := Aside0.mk (blk_below (g := gb176) (o := .cells #[.string ((rd_T96 l0_5 a1).f0), .bool ((rd_T96 l0_5 a1).f1), .int .i64 ((rd_T96 l0_5 a1).f2), .int .i64 ((rd_T96 l0_5 a1).f3)] 96 (0, 0)) (by (with_reducible repeat (first | refine blk_drewN ?_ _ | refine blk_drew ?_ | refine blk_alloc ?_ _)); exact BK176.out) hb); have n2_ := Aside0.mk (below_step (by repeat (first | (with_reducible first | exact HB.out | apply below_alloc | apply pw_below_drewN | apply below_drew1 | refine below_set ?_ GE174.out | refine below_set ?_ GE176.out) | exact HB.out)) hb); have n3_ := Aside0.mk (hbox); have n4_ := Aside0.mk ((by rw [hg]; exact (below_size (by repeat (first | (with_reducible first | exact HB.out | apply below_alloc | apply pw_below_drewN | apply below_drew1 | refine below_set ?_ GE174.out | refine below_set ?_ GE176.out) | exact HB.out))) : w.heap.size ≤ gb187)); have n5_ := Aside0.mk ((by rw [hg]; exact (below_size (by repeat (first | (with_reducible first | exact HB.out | apply below_alloc | apply pw_below_drewN | apply below_drew1 | refine below_set ?_ GE174.out | refine below_set ?_ GE176.out) | exact HB.out))) : w.heap.size ≤ gb187)); have n6_ := Aside0.mk ((by rw [hg]; exact Nat.ne_of_lt (blk_lt (g := gb174) (o := .cells #[.int .i64 a0_0, .int .i64 a0_1, .int .i64 a0_2, .slice A0_3 l0_3.length c0_3, .slice A0_4 l0_4.length c0_4, .slice (some ad175) l0_5.length c0_5] 57 (0, 0)) (by (with_reducible repeat (first | refine blk_drewN ?_ _ | refine blk_drew ?_ | refine blk_alloc ?_ _)); exact BK174.out)) : gb174 ≠ gb187)); have n7_ := Aside0.mk ((by rw [hg]; exact Nat.ne_of_gt (blk_lt (g := gb174) (o := .cells #[.int .i64 a0_0, .int .i64 a0_1, .int .i64 a0_2, .slice A0_3 l0_3.length c0_3, .slice A0_4 l0_4.length c0_4, .slice (some ad175) l0_5.length c0_5] 57 (0, 0)) (by (with_reducible repeat (first | refine blk_drewN ?_ _ | refine blk_drew ?_ | refine blk_alloc ?_ _)); exact BK174.out)) : gb187 ≠ gb174)); have n8_ := Aside0.mk ((by rw [hg]; exact Nat.ne_of_lt (blk_lt (g := gb176) (o := .cells #[.string ((rd_T96 l0_5 a1).f0), .bool ((rd_T96 l0_5 a1).f1), .int .i64 ((rd_T96 l0_5 a1).f2), .int .i64 ((rd_T96 l0_5 a1).f3)] 96 (0, 0)) (by (with_reducible repeat (first | refine blk_drewN ?_ _ | refine blk_drew ?_ | refine blk_alloc ?_ _)); exact BK176.out)) : gb176 ≠ gb187)); have n9_ := Aside0.mk ((by rw [hg]; exact Nat.ne_of_gt (blk_lt (g := gb176) (o := .cells #[.string ((rd_T96 l0_5 a1).f0), .bool ((rd_T96 l0_5 a1).f1), .int .i64 ((rd_T96 l0_5 a1).f2), .int .i64 ((rd_T96 l0_5 a1).f3)] 96 (0, 0)) (by (with_reducible repeat (first | refine blk_drewN ?_ _ | refine blk_drew ?_ | refine blk_alloc ?_ _)); exact BK176.out)) : gb187 ≠ gb176)); clear BK174; clear BK176; clear HB; have BK174 := n0_; have BK176 := n1_; have HB := n2_; have BK187 := n3_; have GW187 := n4_; have GE187 := n5_; have NB174_187 := n6_; have NB187_174 := n7_; have NB176_187 := n8_; have NB187_176 := n9_; clear n0_ n1_ n2_ n3_ n4_ n5_ n6_ n7_ n8_ n9_; clear hb hbox hg; have hnb59 := NB187_174.out; have hnc59 := NB174_187.out; have hnb60 := NB187_176.out; have hnc60 := NB176_187.out; have hcz61_0 : w58.cell? ⟨gb187, 0, none⟩ = some (.string (⟨#[]⟩ : ByteArray)) := (blk_cell BK187.out 0).trans rfl; have hcz61_1 : w58.cell? ⟨gb187, 1, none⟩ = some (.bool false) := (blk_cell BK187.out 1).trans rfl; have hcz61_2 : w58.cell? ⟨gb187, 2, none⟩ = some (.int .i64 0) := (blk_cell BK187.out 2).trans rfl; have hcz61_3 : w58.cell? ⟨gb187, 3, none⟩ = some (.int .i64 0) := (blk_cell BK187.out 3).trans rfl; have hfz61_0 := blk_frozen BK187.out 0; have hfz61_1 := blk_frozen BK187.out 1; have hfz61_2 := blk_frozen BK187.out 2; have hfz61_3 := blk_frozen BK187.out 3))
                   (try simp only [Act.put, List.setIfInBounds_toArray, List.set_cons_zero, List.set_cons_succ])
                   go_cut [94] (fun v94 wc => ∃ (kq : Nat) (x94_56 : Bool), v94 = .bool x94_56 ∧ Aside0 (floor_checkPort.j3 kq y182 (y182.length : Int) x79_2 x94_56 a0_0 a0_1 a0_2 l0_3 l0_4 l0_5 ((rd_T96 l0_5 a1).f0) ((rd_T96 l0_5 a1).f1) ((rd_T96 l0_5 a1).f2) ((rd_T96 l0_5 a1).f3) ((rd_T96 y182 x79_2).f0) ((rd_T96 y182 x79_2).f1) ((rd_T96 y182 x79_2).f2) ((rd_T96 y182 x79_2).f3) = some r) ∧ Aside0 (kq ≤ k2) ∧ Aside0 (wc.heap[gb174]? = some (.cells #[.int .i64 a0_0, .int .i64 a0_1, .int .i64 a0_2, (.slice A0_3 l0_3.length c0_3), (.slice A0_4 l0_4.length c0_4), (.slice (some ad175) l0_5.length c0_5)] 57 (0, 0))) ∧ Aside0 (wc.heap[gb176]? = some (.cells #[.string ((rd_T96 l0_5 a1).f0), .bool ((rd_T96 l0_5 a1).f1), .int .i64 ((rd_T96 l0_5 a1).f2), .int .i64 ((rd_T96 l0_5 a1).f3)] 96 (0, 0))) ∧ Aside0 (wc.heap[gb187]? = some (.cells #[.string ((rd_T96 y182 x79_2).f0), .bool ((rd_T96 y182 x79_2).f1), .int .i64 ((rd_T96 y182 x79_2).f2), .int .i64 ((rd_T96 y182 x79_2).f3)] 96 (0, 0))) ∧ Aside0 (Below w.heap.size w wc))
                   case first =>
                    have H := HC57.out
                    clear HC57
                    by_cases c62 : ((rd_T96 y182 x79_2).f0).toList = ((rd_T96 l0_5 a1).f0).toList
                    · rw [if_pos c62] at H
                      have c62b0 : (((rd_T96 y182 x79_2).f0).toList == ((rd_T96 l0_5 a1).f0).toList) = true := beq_iff_eq.mpr c62
                      have c62b1 : (((rd_T96 y182 x79_2).f0).toList != ((rd_T96 l0_5 a1).f0).toList) = false := bne_eq_false_iff_eq.mpr c62
                      clear c62
                      (first | rw [c62b0] | (simp only [i64_w, i32_w]; rw [c62b0]) | skip)
                      have H' := Aside0.mk H
                      clear H
                      have hnb63 := NB187_174.out
                      have hnc63 := NB174_187.out
                      have hnb64 := NB187_176.out
                      have hnc64 := NB176_187.out
                      have hcz65_0 : w58.cell? ⟨gb187, 0, none⟩ = some (.string (⟨#[]⟩ : ByteArray)) := (blk_cell BK187.out 0).trans rfl
                      have hcz65_1 : w58.cell? ⟨gb187, 1, none⟩ = some (.bool false) := (blk_cell BK187.out 1).trans rfl
                      have hcz65_2 : w58.cell? ⟨gb187, 2, none⟩ = some (.int .i64 0) := (blk_cell BK187.out 2).trans rfl
                      have hcz65_3 : w58.cell? ⟨gb187, 3, none⟩ = some (.int .i64 0) := (blk_cell BK187.out 3).trans rfl
                      have hfz65_0 := blk_frozen BK187.out 0
                      have hfz65_1 := blk_frozen BK187.out 1
                      have hfz65_2 := blk_frozen BK187.out 2
                      have hfz65_3 := blk_frozen BK187.out 3
                      have hnb66 := NB176_174.out
                      have hnc66 := NB174_176.out
                      have hcz67_0 : w58.cell? ⟨gb176, 0, none⟩ = some (.string ((rd_T96 l0_5 a1).f0)) := (blk_cell BK176.out 0).trans rfl
                      have hcz67_1 : w58.cell? ⟨gb176, 1, none⟩ = some (.bool ((rd_T96 l0_5 a1).f1)) := (blk_cell BK176.out 1).trans rfl
                      have hcz67_2 : w58.cell? ⟨gb176, 2, none⟩ = some (.int .i64 ((rd_T96 l0_5 a1).f2)) := (blk_cell BK176.out 2).trans rfl
                      have hcz67_3 : w58.cell? ⟨gb176, 3, none⟩ = some (.int .i64 ((rd_T96 l0_5 a1).f3)) := (blk_cell BK176.out 3).trans rfl
                      have hfz67_0 := blk_frozen BK176.out 0
                      have hfz67_1 := blk_frozen BK176.out 1
                      have hfz67_2 := blk_frozen BK176.out 2
                      have hfz67_3 := blk_frozen BK176.out 3
                      go_wp2
                      go_meet
                      case rel => exact ⟨_, ((((rd_T96 y182 x79_2).f1) == ((rd_T96 l0_5 a1).f1))), (by first | rfl | (simp; done) | (simp [*]; done)), H', ⟨by have := HJ5.out; have := HK2.out; first | omega | exact Nat.le_refl _⟩, ⟨by (with_reducible repeat (first | refine blk_drewN ?_ _ | refine blk_drew ?_ | refine blk_alloc ?_ _)); refine blk_far ?_ NB174_187.out _; (with_reducible repeat (first | refine blk_drewN ?_ _ | refine blk_drew ?_ | refine blk_alloc ?_ _)); refine blk_far ?_ NB174_187.out _; (with_reducible repeat (first | refine blk_drewN ?_ _ | refine blk_drew ?_ | refine blk_alloc ?_ _)); refine blk_far ?_ NB174_187.out _; (with_reducible repeat (first | refine blk_drewN ?_ _ | refine blk_drew ?_ | refine blk_alloc ?_ _)); refine blk_far ?_ NB174_187.out _; (with_reducible repeat (first | refine blk_drewN ?_ _ | refine blk_drew ?_ | refine blk_alloc ?_ _)); exact BK174.out⟩, ⟨by (with_reducible repeat (first | refine blk_drewN ?_ _ | refine blk_drew ?_ | refine blk_alloc ?_ _)); refine blk_far ?_ NB176_187.out _; (with_reducible repeat (first | refine blk_drewN ?_ _ | refine blk_drew ?_ | refine blk_alloc ?_ _)); refine blk_far ?_ NB176_187.out _; (with_reducible repeat (first | refine blk_drewN ?_ _ | refine blk_drew ?_ | refine blk_alloc ?_ _)); refine blk_far ?_ NB176_187.out _; (with_reducible repeat (first | refine blk_drewN ?_ _ | refine blk_drew ?_ | refine blk_alloc ?_ _)); refine blk_far ?_ NB176_187.out _; (with_reducible repeat (first | refine blk_drewN ?_ _ | refine blk_drew ?_ | refine blk_alloc ?_ _)); exact BK176.out⟩, ⟨by (with_reducible repeat (first | refine blk_drewN ?_ _ | refine blk_drew ?_ | refine blk_alloc ?_ _)); refine blk_put (cs := #[.string ((rd_T96 y182 x79_2).f0), .bool ((rd_T96 y182 x79_2).f1), .int .i64 ((rd_T96 y182 x79_2).f2), .int .i64 0]) ?_ 3 _ rfl; (with_reducible repeat (first | refine blk_drewN ?_ _ | refine blk_drew ?_ | refine blk_alloc ?_ _)); refine blk_put (cs := #[.string ((rd_T96 y182 x79_2).f0), .bool ((rd_T96 y182 x79_2).f1), .int .i64 0, .int .i64 0]) ?_ 2 _ rfl; (with_reducible repeat (first | refine blk_drewN ?_ _ | refine blk_drew ?_ | refine blk_alloc ?_ _)); refine blk_put (cs := #[.string ((rd_T96 y182 x79_2).f0), .bool false, .int .i64 0, .int .i64 0]) ?_ 1 _ rfl; (with_reducible repeat (first | refine blk_drewN ?_ _ | refine blk_drew ?_ | refine blk_alloc ?_ _)); refine blk_put (cs := #[.string (⟨#[]⟩ : ByteArray), .bool false, .int .i64 0, .int .i64 0]) ?_ 0 _ rfl; (with_reducible repeat (first | refine blk_drewN ?_ _ | refine blk_drew ?_ | refine blk_alloc ?_ _)); exact BK187.out⟩, ⟨by repeat (first | (with_reducible first | exact HB.out | apply below_alloc | apply pw_below_drewN | apply below_drew1 | refine below_set ?_ GE174.out | refine below_set ?_ GE176.out | refine below_set ?_ GE187.out) | exact HB.out)⟩⟩
                    · rw [if_neg c62] at H
                      have c62b0 : (((rd_T96 y182 x79_2).f0).toList == ((rd_T96 l0_5 a1).f0).toList) = false := beq_eq_false_iff_ne.mpr c62
                      have c62b1 : (((rd_T96 y182 x79_2).f0).toList != ((rd_T96 l0_5 a1).f0).toList) = true := bne_iff_ne.mpr c62
                      (first | rw [c62b0] | (simp only [i64_w, i32_w]; rw [c62b0]) | skip)
                      have H' := Aside0.mk H
                      clear H
                      have hnb68 := NB187_174.out
                      have hnc68 := NB174_187.out
                      have hnb69 := NB187_176.out
                      have hnc69 := NB176_187.out
                      have hcz70_0 : w58.cell? ⟨gb187, 0, none⟩ = some (.string (⟨#[]⟩ : ByteArray)) := (blk_cell BK187.out 0).trans rfl
                      have hcz70_1 : w58.cell? ⟨gb187, 1, none⟩ = some (.bool false) := (blk_cell BK187.out 1).trans rfl
                      have hcz70_2 : w58.cell? ⟨gb187, 2, none⟩ = some (.int .i64 0) := (blk_cell BK187.out 2).trans rfl
                      have hcz70_3 : w58.cell? ⟨gb187, 3, none⟩ = some (.int .i64 0) := (blk_cell BK187.out 3).trans rfl
                      have hfz70_0 := blk_frozen BK187.out 0
                      have hfz70_1 := blk_frozen BK187.out 1
                      have hfz70_2 := blk_frozen BK187.out 2
                      have hfz70_3 := blk_frozen BK187.out 3
                      have hnb71 := NB176_174.out
                      have hnc71 := NB174_176.out
                      have hcz72_0 : w58.cell? ⟨gb176, 0, none⟩ = some (.string ((rd_T96 l0_5 a1).f0)) := (blk_cell BK176.out 0).trans rfl
                      have hcz72_1 : w58.cell? ⟨gb176, 1, none⟩ = some (.bool ((rd_T96 l0_5 a1).f1)) := (blk_cell BK176.out 1).trans rfl
                      have hcz72_2 : w58.cell? ⟨gb176, 2, none⟩ = some (.int .i64 ((rd_T96 l0_5 a1).f2)) := (blk_cell BK176.out 2).trans rfl
                      have hcz72_3 : w58.cell? ⟨gb176, 3, none⟩ = some (.int .i64 ((rd_T96 l0_5 a1).f3)) := (blk_cell BK176.out 3).trans rfl
                      have hfz72_0 := blk_frozen BK176.out 0
                      have hfz72_1 := blk_frozen BK176.out 1
                      have hfz72_2 := blk_frozen BK176.out 2
                      have hfz72_3 := blk_frozen BK176.out 3
                      go_wp2
                      go_meet
                      case rel => exact ⟨_, (false), (by first | rfl | (simp; done) | (simp [*]; done)), H', ⟨by have := HJ5.out; have := HK2.out; first | omega | exact Nat.le_refl _⟩, ⟨by (with_reducible repeat (first | refine blk_drewN ?_ _ | refine blk_drew ?_ | refine blk_alloc ?_ _)); refine blk_far ?_ NB174_187.out _; (with_reducible repeat (first | refine blk_drewN ?_ _ | refine blk_drew ?_ | refine blk_alloc ?_ _)); refine blk_far ?_ NB174_187.out _; (with_reducible repeat (first | refine blk_drewN ?_ _ | refine blk_drew ?_ | refine blk_alloc ?_ _)); refine blk_far ?_ NB174_187.out _; (with_reducible repeat (first | refine blk_drewN ?_ _ | refine blk_drew ?_ | refine blk_alloc ?_ _)); refine blk_far ?_ NB174_187.out _; (with_reducible repeat (first | refine blk_drewN ?_ _ | refine blk_drew ?_ | refine blk_alloc ?_ _)); exact BK174.out⟩, ⟨by (with_reducible repeat (first | refine blk_drewN ?_ _ | refine blk_drew ?_ | refine blk_alloc ?_ _)); refine blk_far ?_ NB176_187.out _; (with_reducible repeat (first | refine blk_drewN ?_ _ | refine blk_drew ?_ | refine blk_alloc ?_ _)); refine blk_far ?_ NB176_187.out _; (with_reducible repeat (first | refine blk_drewN ?_ _ | refine blk_drew ?_ | refine blk_alloc ?_ _)); refine blk_far ?_ NB176_187.out _; (with_reducible repeat (first | refine blk_drewN ?_ _ | refine blk_drew ?_ | refine blk_alloc ?_ _)); refine blk_far ?_ NB176_187.out _; (with_reducible repeat (first | refine blk_drewN ?_ _ | refine blk_drew ?_ | refine blk_alloc ?_ _)); exact BK176.out⟩, ⟨by (with_reducible repeat (first | refine blk_drewN ?_ _ | refine blk_drew ?_ | refine blk_alloc ?_ _)); refine blk_put (cs := #[.string ((rd_T96 y182 x79_2).f0), .bool ((rd_T96 y182 x79_2).f1), .int .i64 ((rd_T96 y182 x79_2).f2), .int .i64 0]) ?_ 3 _ rfl; (with_reducible repeat (first | refine blk_drewN ?_ _ | refine blk_drew ?_ | refine blk_alloc ?_ _)); refine blk_put (cs := #[.string ((rd_T96 y182 x79_2).f0), .bool ((rd_T96 y182 x79_2).f1), .int .i64 0, .int .i64 0]) ?_ 2 _ rfl; (with_reducible repeat (first | refine blk_drewN ?_ _ | refine blk_drew ?_ | refine blk_alloc ?_ _)); refine blk_put (cs := #[.string ((rd_T96 y182 x79_2).f0), .bool false, .int .i64 0, .int .i64 0]) ?_ 1 _ rfl; (with_reducible repeat (first | refine blk_drewN ?_ _ | refine blk_drew ?_ | refine blk_alloc ?_ _)); refine blk_put (cs := #[.string (⟨#[]⟩ : ByteArray), .bool false, .int .i64 0, .int .i64 0]) ?_ 0 _ rfl; (with_reducible repeat (first | refine blk_drewN ?_ _ | refine blk_drew ?_ | refine blk_alloc ?_ _)); exact BK187.out⟩, ⟨by repeat (first | (with_reducible first | exact HB.out | apply below_alloc | apply pw_below_drewN | apply below_drew1 | refine below_set ?_ GE174.out | refine below_set ?_ GE176.out | refine below_set ?_ GE187.out) | exact HB.out)⟩⟩
                   case rest =>
                    clear HC57
                    try clear c1
                    try clear p1
                    try clear q1
                    try clear hx1
                    try clear c2
                    try clear p2
                    try clear c3
                    try clear c3b0
                    try clear c4
                    try clear c4b0
                    try clear c5
                    try clear q5
                    try clear c6
                    try clear p6
                    try clear c7
                    try clear c10
                    try clear c15
                    try clear c17
                    try clear p17
                    try clear q17
                    try clear hx17
                    try clear p18
                    try clear q18
                    try clear hx18
                    try clear c19
                    try clear c19b0
                    try clear c19b1
                    try clear c20
                    try clear c22
                    try clear c24
                    try clear c26
                    try clear c27
                    try clear c28
                    try clear c29
                    try clear c29b0
                    try clear c30
                    try clear c30b0
                    try clear c31
                    try clear c31b0
                    try clear c32
                    try clear c32b0
                    try clear c33
                    try clear c35
                    try clear c37
                    try clear c39
                    try clear c41
                    try clear c43
                    try clear c45
                    try clear c47
                    try clear c49
                    try clear c49b0
                    try clear c49b1
                    try clear c50
                    try clear c50b0
                    try clear c50b1
                    try clear c51
                    try clear q53
                    try clear c54
                    try clear c54b0
                    try clear c55
                    try clear c55b0
                    try clear c56
                    try clear c56b0
                    try clear c58
                    try clear c59
                    try clear c60
                    try clear c62
                    try clear c62b0
                    try clear c62b1
                    try clear c63
                    try clear c64
                    try clear p64
                    try clear c66
                    try clear c68
                    try clear c69
                    try clear c71
                    try clear hcz11_0
                    try clear hcz11_1
                    try clear hcz11_2
                    try clear hcz11_3
                    try clear hcz12_0
                    try clear hcz12_1
                    try clear hcz12_2
                    try clear hcz12_3
                    try clear hcz12_4
                    try clear hcz12_5
                    try clear hcz18_0
                    try clear hcz18_1
                    try clear hcz18_2
                    try clear hcz18_3
                    try clear hcz21_0
                    try clear hcz21_1
                    try clear hcz21_2
                    try clear hcz21_3
                    try clear hcz23_0
                    try clear hcz23_1
                    try clear hcz23_2
                    try clear hcz23_3
                    try clear hcz34_0
                    try clear hcz34_1
                    try clear hcz34_2
                    try clear hcz34_3
                    try clear hcz36_0
                    try clear hcz36_1
                    try clear hcz36_2
                    try clear hcz36_3
                    try clear hcz38_0
                    try clear hcz38_1
                    try clear hcz38_2
                    try clear hcz38_3
                    try clear hcz40_0
                    try clear hcz40_1
                    try clear hcz40_2
                    try clear hcz40_3
                    try clear hcz42_0
                    try clear hcz42_1
                    try clear hcz42_2
                    try clear hcz42_3
                    try clear hcz44_0
                    try clear hcz44_1
                    try clear hcz44_2
                    try clear hcz44_3
                    try clear hcz46_0
                    try clear hcz46_1
                    try clear hcz46_2
                    try clear hcz46_3
                    try clear hcz48_0
                    try clear hcz48_1
                    try clear hcz48_2
                    try clear hcz48_3
                    try clear hcz52_0
                    try clear hcz52_1
                    try clear hcz52_2
                    try clear hcz52_3
                    try clear hcz52_4
                    try clear hcz52_5
                    try clear hcz61_0
                    try clear hcz61_1
                    try clear hcz61_2
                    try clear hcz61_3
                    try clear hcz65_0
                    try clear hcz65_1
                    try clear hcz65_2
                    try clear hcz65_3
                    try clear hcz67_0
                    try clear hcz67_1
                    try clear hcz67_2
                    try clear hcz67_3
                    try clear hcz70_0
                    try clear hcz70_1
                    try clear hcz70_2
                    try clear hcz70_3
                    try clear hcz72_0
                    try clear hcz72_1
                    try clear hcz72_2
                    try clear hcz72_3
                    try clear hcz8_0
                    try clear hcz8_1
                    try clear hcz8_2
                    try clear hcz8_3
                    try clear hcz8_4
                    try clear hcz8_5
                    try clear hfz11_0
                    try clear hfz11_1
                    try clear hfz11_2
                    try clear hfz11_3
                    try clear hfz12_0
                    try clear hfz12_1
                    try clear hfz12_2
                    try clear hfz12_3
                    try clear hfz12_4
                    try clear hfz12_5
                    try clear hfz18_0
                    try clear hfz18_1
                    try clear hfz18_2
                    try clear hfz18_3
                    try clear hfz21_0
                    try clear hfz21_1
                    try clear hfz21_2
                    try clear hfz21_3
                    try clear hfz23_0
                    try clear hfz23_1
                    try clear hfz23_2
                    try clear hfz23_3
                    try clear hfz34_0
                    try clear hfz34_1
                    try clear hfz34_2
                    try clear hfz34_3
                    try clear hfz36_0
                    try clear hfz36_1
                    try clear hfz36_2
                    try clear hfz36_3
                    try clear hfz38_0
                    try clear hfz38_1
                    try clear hfz38_2
                    try clear hfz38_3
                    try clear hfz40_0
                    try clear hfz40_1
                    try clear hfz40_2
                    try clear hfz40_3
                    try clear hfz42_0
                    try clear hfz42_1
                    try clear hfz42_2
                    try clear hfz42_3
                    try clear hfz44_0
                    try clear hfz44_1
                    try clear hfz44_2
                    try clear hfz44_3
                    try clear hfz46_0
                    try clear hfz46_1
                    try clear hfz46_2
                    try clear hfz46_3
                    try clear hfz48_0
                    try clear hfz48_1
                    try clear hfz48_2
                    try clear hfz48_3
                    try clear hfz52_0
                    try clear hfz52_1
                    try clear hfz52_2
                    try clear hfz52_3
                    try clear hfz52_4
                    try clear hfz52_5
                    try clear hfz61_0
                    try clear hfz61_1
                    try clear hfz61_2
                    try clear hfz61_3
                    try clear hfz65_0
                    try clear hfz65_1
                    try clear hfz65_2
                    try clear hfz65_3
                    try clear hfz67_0
                    try clear hfz67_1
                    try clear hfz67_2
                    try clear hfz67_3
                    try clear hfz70_0
                    try clear hfz70_1
                    try clear hfz70_2
                    try clear hfz70_3
                    try clear hfz72_0
                    try clear hfz72_1
                    try clear hfz72_2
                    try clear hfz72_3
                    try clear hfz8_0
                    try clear hfz8_1
                    try clear hfz8_2
                    try clear hfz8_3
                    try clear hfz8_4
                    try clear hfz8_5
                    try clear hx175_0
                    try clear hx175_1
                    try clear hx175_2
                    try clear hx175_3
                    try clear hx186_0
                    try clear hx186_1
                    try clear hx186_2
                    try clear hx186_3
                    try clear p1
                    try clear p17
                    try clear p175
                    try clear p186
                    try clear p2
                    try clear p6
                    try clear q1
                    try clear q17
                    try clear q175
                    try clear q186
                    try clear q5
                    try clear q53
                    obtain ⟨kq, x94_56, rfl, HA, HJ56, BK174, BK176, BK187, HB⟩ := hcut
                    cases kq with
                    | zero => exact absurd HA.out (by simp [floor_checkPort.j3])
                    | succ kj56 =>
                     have H := HA.out
                     clear HA
                     simp only [floor_checkPort.j3] at H
                     by_cases c73 : x94_56 = true
                     · subst c73
                       have H1 : (some 6) = some r := by rw [if_pos rfl] at H; exact H
                       clear H
                       have H := H1
                       clear H1
                       obtain rfl := Option.some.inj H
                       go_wp2
                       go_ret
                       exact ⟨by first | rfl | (simp [errW_none, errW_some] <;> rfl) | (simp [*, errW_none, errW_some] <;> rfl), by repeat (first | (with_reducible first | exact HB.out | apply below_alloc | apply pw_below_drewN | apply below_drew1 | refine below_set ?_ GE174.out | refine below_set ?_ GE176.out | refine below_set ?_ GE187.out) | exact HB.out)⟩
                     · replace c73 := Bool.eq_false_iff.mpr c73
                       subst c73
                       have H1 : (if (mx (mx (mx (wrap64 (((rd_T96 l0_5 a1).f2) - ((rd_T96 y182 x79_2).f2))) (wrap64 (((rd_T96 y182 x79_2).f2) - ((rd_T96 l0_5 a1).f2)))) (wrap64 (((rd_T96 l0_5 a1).f3) - ((rd_T96 y182 x79_2).f3)))) (wrap64 (((rd_T96 y182 x79_2).f3) - ((rd_T96 l0_5 a1).f3)))) < 2 then (some 15) else (floor_checkPort.l0 kj56 y182 (y182.length : Int) (wrap64 (x79_2 + 1)) a0_0 a0_1 a0_2 l0_3 l0_4 l0_5 ((rd_T96 l0_5 a1).f0) ((rd_T96 l0_5 a1).f1) ((rd_T96 l0_5 a1).f2) ((rd_T96 l0_5 a1).f3))) = some r := by rw [if_neg (show ¬ (false = true) by decide)] at H; exact H
                       clear H
                       have H := H1
                       clear H1
                       obtain ⟨ji74, hji74⟩ : ∃ j_ : Int, (mx (wrap64 (((rd_T96 l0_5 a1).f2) - ((rd_T96 y182 x79_2).f2))) (wrap64 (((rd_T96 y182 x79_2).f2) - ((rd_T96 l0_5 a1).f2)))) = j_ := ⟨_, rfl⟩
                       replace H : (if (mx (mx (ji74) (wrap64 (((rd_T96 l0_5 a1).f3) - ((rd_T96 y182 x79_2).f3)))) (wrap64 (((rd_T96 y182 x79_2).f3) - ((rd_T96 l0_5 a1).f3)))) < 2 then (some 15) else (floor_checkPort.l0 kj56 y182 (y182.length : Int) (wrap64 (x79_2 + 1)) a0_0 a0_1 a0_2 l0_3 l0_4 l0_5 ((rd_T96 l0_5 a1).f0) ((rd_T96 l0_5 a1).f1) ((rd_T96 l0_5 a1).f2) ((rd_T96 l0_5 a1).f3))) = some r := by first | (rw [hji74] at H; exact H) | (simp only [hji74] at H ⊢; exact H)
                       have hji74_ : (if (wrap64 (((rd_T96 l0_5 a1).f2) - ((rd_T96 y182 x79_2).f2))) < (wrap64 (((rd_T96 y182 x79_2).f2) - ((rd_T96 l0_5 a1).f2))) then (wrap64 (((rd_T96 y182 x79_2).f2) - ((rd_T96 l0_5 a1).f2))) else (wrap64 (((rd_T96 l0_5 a1).f2) - ((rd_T96 y182 x79_2).f2)))) = ji74 := hji74
                       obtain ⟨ji75, hji75⟩ : ∃ j_ : Int, (mx (ji74) (wrap64 (((rd_T96 l0_5 a1).f3) - ((rd_T96 y182 x79_2).f3)))) = j_ := ⟨_, rfl⟩
                       replace H : (if (mx (ji75) (wrap64 (((rd_T96 y182 x79_2).f3) - ((rd_T96 l0_5 a1).f3)))) < 2 then (some 15) else (floor_checkPort.l0 kj56 y182 (y182.length : Int) (wrap64 (x79_2 + 1)) a0_0 a0_1 a0_2 l0_3 l0_4 l0_5 ((rd_T96 l0_5 a1).f0) ((rd_T96 l0_5 a1).f1) ((rd_T96 l0_5 a1).f2) ((rd_T96 l0_5 a1).f3))) = some r := by first | (rw [hji75] at H; exact H) | (simp only [hji75] at H ⊢; exact H)
                       have hji75_ : (if (ji74) < (wrap64 (((rd_T96 l0_5 a1).f3) - ((rd_T96 y182 x79_2).f3))) then (wrap64 (((rd_T96 l0_5 a1).f3) - ((rd_T96 y182 x79_2).f3))) else (ji74)) = ji75 := hji75
                       obtain ⟨ji76, hji76⟩ : ∃ j_ : Int, (mx (ji75) (wrap64 (((rd_T96 y182 x79_2).f3) - ((rd_T96 l0_5 a1).f3)))) = j_ := ⟨_, rfl⟩
                       replace H : (if (ji76) < 2 then (some 15) else (floor_checkPort.l0 kj56 y182 (y182.length : Int) (wrap64 (x79_2 + 1)) a0_0 a0_1 a0_2 l0_3 l0_4 l0_5 ((rd_T96 l0_5 a1).f0) ((rd_T96 l0_5 a1).f1) ((rd_T96 l0_5 a1).f2) ((rd_T96 l0_5 a1).f3))) = some r := by first | (rw [hji76] at H; exact H) | (simp only [hji76] at H ⊢; exact H)
                       have hji76_ : (if (ji75) < (wrap64 (((rd_T96 y182 x79_2).f3) - ((rd_T96 l0_5 a1).f3))) then (wrap64 (((rd_T96 y182 x79_2).f3) - ((rd_T96 l0_5 a1).f3))) else (ji75)) = ji76 := hji76
                       by_cases c77 : (ji76) < 2
                       · rw [if_pos c77] at H
                         have c77b0 : decide ((ji76) < 2) = true := decide_eq_true c77
                         clear c77
                         obtain rfl := Option.some.inj H
                         have hnb78 := NB176_174.out
                         have hnc78 := NB174_176.out
                         have hnb79 := NB176_187.out
                         have hnc79 := NB187_176.out
                         have hcz80_0 : wc.cell? ⟨gb176, 0, none⟩ = some (.string ((rd_T96 l0_5 a1).f0)) := (blk_cell BK176.out 0).trans rfl
                         have hcz80_1 : wc.cell? ⟨gb176, 1, none⟩ = some (.bool ((rd_T96 l0_5 a1).f1)) := (blk_cell BK176.out 1).trans rfl
                         have hcz80_2 : wc.cell? ⟨gb176, 2, none⟩ = some (.int .i64 ((rd_T96 l0_5 a1).f2)) := (blk_cell BK176.out 2).trans rfl
                         have hcz80_3 : wc.cell? ⟨gb176, 3, none⟩ = some (.int .i64 ((rd_T96 l0_5 a1).f3)) := (blk_cell BK176.out 3).trans rfl
                         have hfz80_0 := blk_frozen BK176.out 0
                         have hfz80_1 := blk_frozen BK176.out 1
                         have hfz80_2 := blk_frozen BK176.out 2
                         have hfz80_3 := blk_frozen BK176.out 3
                         have hnb81 := NB187_174.out
                         have hnc81 := NB174_187.out
                         have hcz82_0 : wc.cell? ⟨gb187, 0, none⟩ = some (.string ((rd_T96 y182 x79_2).f0)) := (blk_cell BK187.out 0).trans rfl
                         have hcz82_1 : wc.cell? ⟨gb187, 1, none⟩ = some (.bool ((rd_T96 y182 x79_2).f1)) := (blk_cell BK187.out 1).trans rfl
                         have hcz82_2 : wc.cell? ⟨gb187, 2, none⟩ = some (.int .i64 ((rd_T96 y182 x79_2).f2)) := (blk_cell BK187.out 2).trans rfl
                         have hcz82_3 : wc.cell? ⟨gb187, 3, none⟩ = some (.int .i64 ((rd_T96 y182 x79_2).f3)) := (blk_cell BK187.out 3).trans rfl
                         have hfz82_0 := blk_frozen BK187.out 0
                         have hfz82_1 := blk_frozen BK187.out 1
                         have hfz82_2 := blk_frozen BK187.out 2
                         have hfz82_3 := blk_frozen BK187.out 3
                         go_wp2
                         go_ret
                         exact ⟨by first | rfl | (simp [errW_none, errW_some] <;> rfl) | (simp only [← hji74, ← hji75, ← hji76]; first | rfl | (simp [errW_none, errW_some] <;> rfl)) | (simp [*, errW_none, errW_some] <;> rfl), by repeat (first | (with_reducible first | exact HB.out | apply below_alloc | apply pw_below_drewN | apply below_drew1 | refine below_set ?_ GE174.out | refine below_set ?_ GE176.out | refine below_set ?_ GE187.out) | exact HB.out)⟩
                       · rw [if_neg c77] at H
                         have c77b0 : decide ((ji76) < 2) = false := decide_eq_false c77
                         clear c77
                         have H' := Aside0.mk H
                         clear H
                         have hnb83 := NB176_174.out
                         have hnc83 := NB174_176.out
                         have hnb84 := NB176_187.out
                         have hnc84 := NB187_176.out
                         have hcz85_0 : wc.cell? ⟨gb176, 0, none⟩ = some (.string ((rd_T96 l0_5 a1).f0)) := (blk_cell BK176.out 0).trans rfl
                         have hcz85_1 : wc.cell? ⟨gb176, 1, none⟩ = some (.bool ((rd_T96 l0_5 a1).f1)) := (blk_cell BK176.out 1).trans rfl
                         have hcz85_2 : wc.cell? ⟨gb176, 2, none⟩ = some (.int .i64 ((rd_T96 l0_5 a1).f2)) := (blk_cell BK176.out 2).trans rfl
                         have hcz85_3 : wc.cell? ⟨gb176, 3, none⟩ = some (.int .i64 ((rd_T96 l0_5 a1).f3)) := (blk_cell BK176.out 3).trans rfl
                         have hfz85_0 := blk_frozen BK176.out 0
                         have hfz85_1 := blk_frozen BK176.out 1
                         have hfz85_2 := blk_frozen BK176.out 2
                         have hfz85_3 := blk_frozen BK176.out 3
                         have hnb86 := NB187_174.out
                         have hnc86 := NB174_187.out
                         have hcz87_0 : wc.cell? ⟨gb187, 0, none⟩ = some (.string ((rd_T96 y182 x79_2).f0)) := (blk_cell BK187.out 0).trans rfl
                         have hcz87_1 : wc.cell? ⟨gb187, 1, none⟩ = some (.bool ((rd_T96 y182 x79_2).f1)) := (blk_cell BK187.out 1).trans rfl
                         have hcz87_2 : wc.cell? ⟨gb187, 2, none⟩ = some (.int .i64 ((rd_T96 y182 x79_2).f2)) := (blk_cell BK187.out 2).trans rfl
                         have hcz87_3 : wc.cell? ⟨gb187, 3, none⟩ = some (.int .i64 ((rd_T96 y182 x79_2).f3)) := (blk_cell BK187.out 3).trans rfl
                         have hfz87_0 := blk_frozen BK187.out 0
                         have hfz87_1 := blk_frozen BK187.out 1
                         have hfz87_2 := blk_frozen BK187.out 2
                         have hfz87_3 := blk_frozen BK187.out 3
                         go_wp2
                         go_roundg kj56
                         case measure => have := HJ5.out; have := HK2.out; have := HJ56.out; omega
                         case rel => exact ⟨(wrap64 (x79_2 + 1)), (by first | rfl | (simp; done) | (simp [*]; done)), H', ⟨by have := HJ5.out; have := HK2.out; have := HJ56.out; omega⟩, ⟨by (with_reducible repeat (first | refine blk_drewN ?_ _ | refine blk_drew ?_ | refine blk_alloc ?_ _)); exact BK174.out⟩, ⟨by (with_reducible repeat (first | refine blk_drewN ?_ _ | refine blk_drew ?_ | refine blk_alloc ?_ _)); exact BK176.out⟩, ⟨by repeat (first | (with_reducible first | exact HB.out | apply below_alloc | apply pw_below_drewN | apply below_drew1 | refine below_set ?_ GE174.out | refine below_set ?_ GE176.out | refine below_set ?_ GE187.out) | exact HB.out)⟩⟩
                 · rw [if_neg c56] at H
                   exact absurd H (by simp)
               · rw [if_neg c55] at H
                 exact absurd H (by simp)
             · rw [if_neg c54] at H
               have c54b0 : decide (x79_2 < (y182.length : Int)) = false := decide_eq_false c54
               clear c54
               have H' := Aside0.mk H
               clear H
               have hnb88 := NB174_176.out
               have hnc88 := NB176_174.out
               have hcz89_0 : wr.cell? ⟨gb174, 0, none⟩ = some (.int .i64 a0_0) := (blk_cell BK174.out 0).trans rfl
               have hcz89_1 : wr.cell? ⟨gb174, 1, none⟩ = some (.int .i64 a0_1) := (blk_cell BK174.out 1).trans rfl
               have hcz89_2 : wr.cell? ⟨gb174, 2, none⟩ = some (.int .i64 a0_2) := (blk_cell BK174.out 2).trans rfl
               have hcz89_3 : wr.cell? ⟨gb174, 3, none⟩ = some (.slice A0_3 l0_3.length c0_3) := (blk_cell BK174.out 3).trans rfl
               have hcz89_4 : wr.cell? ⟨gb174, 4, none⟩ = some (.slice A0_4 l0_4.length c0_4) := (blk_cell BK174.out 4).trans rfl
               have hcz89_5 : wr.cell? ⟨gb174, 5, none⟩ = some (.slice (some ad175) l0_5.length c0_5) := (blk_cell BK174.out 5).trans rfl
               have hfz89_0 := blk_frozen BK174.out 0
               have hfz89_1 := blk_frozen BK174.out 1
               have hfz89_2 := blk_frozen BK174.out 2
               have hfz89_3 := blk_frozen BK174.out 3
               have hfz89_4 := blk_frozen BK174.out 4
               have hfz89_5 := blk_frozen BK174.out 5
               go_wp2
               go_loopg [121] k2 (fun kq v121 w' => ∃ (x121_3 : Int), v121 = .int .i64 x121_3 ∧ Aside0 (floor_checkPort.l1 kq l0_4 (l0_4.length : Int) x121_3 ((rd_T96 l0_5 a1).f0) ((rd_T96 l0_5 a1).f1) ((rd_T96 l0_5 a1).f2) ((rd_T96 l0_5 a1).f3) = some r) ∧ Aside0 (kq ≤ k2) ∧ Aside0 (w'.heap[gb174]? = some (.cells #[.int .i64 a0_0, .int .i64 a0_1, .int .i64 a0_2, (.slice A0_3 l0_3.length c0_3), (.slice A0_4 l0_4.length c0_4), (.slice (some ad175) l0_5.length c0_5)] 57 (0, 0))) ∧ Aside0 (w'.heap[gb176]? = some (.cells #[.string ((rd_T96 l0_5 a1).f0), .bool ((rd_T96 l0_5 a1).f1), .int .i64 ((rd_T96 l0_5 a1).f2), .int .i64 ((rd_T96 l0_5 a1).f3)] 96 (0, 0))) ∧ Aside0 (Below w.heap.size w w'))
               case atStart => exact ⟨(0), (by first | rfl | (simp; done) | (simp [*]; done)), H', ⟨Nat.le_refl _⟩, ⟨by (with_reducible repeat (first | refine blk_drewN ?_ _ | refine blk_drew ?_ | refine blk_alloc ?_ _)); exact BK174.out⟩, ⟨by (with_reducible repeat (first | refine blk_drewN ?_ _ | refine blk_drew ?_ | refine blk_alloc ?_ _)); exact BK176.out⟩, ⟨by repeat (first | (with_reducible first | exact HB.out | apply below_alloc | apply pw_below_drewN | apply below_drew1 | refine below_set ?_ GE174.out | refine below_set ?_ GE176.out) | exact HB.out)⟩⟩
               case round =>
                clear H'
                try clear c1
                try clear p1
                try clear q1
                try clear hx1
                try clear c2
                try clear p2
                try clear c3
                try clear c3b0
                try clear c4
                try clear c4b0
                try clear c5
                try clear q5
                try clear c6
                try clear p6
                try clear c7
                try clear c8
                try clear c10
                try clear c15
                try clear c17
                try clear p17
                try clear q17
                try clear hx17
                try clear p18
                try clear q18
                try clear hx18
                try clear c19
                try clear c19b0
                try clear c19b1
                try clear c20
                try clear c22
                try clear c24
                try clear c26
                try clear c27
                try clear c28
                try clear c29
                try clear c29b0
                try clear c30
                try clear c30b0
                try clear c31
                try clear c31b0
                try clear c32
                try clear c32b0
                try clear c33
                try clear c35
                try clear c37
                try clear c39
                try clear c41
                try clear c43
                try clear c45
                try clear c47
                try clear c49
                try clear c49b0
                try clear c49b1
                try clear c50
                try clear c50b0
                try clear c50b1
                try clear c51
                try clear q53
                try clear c54
                try clear c54b0
                try clear c55
                try clear c55b0
                try clear c56
                try clear c56b0
                try clear c58
                try clear c59
                try clear c60
                try clear c62
                try clear c62b0
                try clear c62b1
                try clear c63
                try clear c64
                try clear p64
                try clear c66
                try clear c68
                try clear c69
                try clear c71
                try clear c73
                try clear c77
                try clear c77b0
                try clear c78
                try clear c79
                try clear c81
                try clear c83
                try clear c84
                try clear c86
                try clear c88
                try clear hcz11_0
                try clear hcz11_1
                try clear hcz11_2
                try clear hcz11_3
                try clear hcz12_0
                try clear hcz12_1
                try clear hcz12_2
                try clear hcz12_3
                try clear hcz12_4
                try clear hcz12_5
                try clear hcz18_0
                try clear hcz18_1
                try clear hcz18_2
                try clear hcz18_3
                try clear hcz21_0
                try clear hcz21_1
                try clear hcz21_2
                try clear hcz21_3
                try clear hcz23_0
                try clear hcz23_1
                try clear hcz23_2
                try clear hcz23_3
                try clear hcz34_0
                try clear hcz34_1
                try clear hcz34_2
                try clear hcz34_3
                try clear hcz36_0
                try clear hcz36_1
                try clear hcz36_2
                try clear hcz36_3
                try clear hcz38_0
                try clear hcz38_1
                try clear hcz38_2
                try clear hcz38_3
                try clear hcz40_0
                try clear hcz40_1
                try clear hcz40_2
                try clear hcz40_3
                try clear hcz42_0
                try clear hcz42_1
                try clear hcz42_2
                try clear hcz42_3
                try clear hcz44_0
                try clear hcz44_1
                try clear hcz44_2
                try clear hcz44_3
                try clear hcz46_0
                try clear hcz46_1
                try clear hcz46_2
                try clear hcz46_3
                try clear hcz48_0
                try clear hcz48_1
                try clear hcz48_2
                try clear hcz48_3
                try clear hcz52_0
                try clear hcz52_1
                try clear hcz52_2
                try clear hcz52_3
                try clear hcz52_4
                try clear hcz52_5
                try clear hcz61_0
                try clear hcz61_1
                try clear hcz61_2
                try clear hcz61_3
                try clear hcz65_0
                try clear hcz65_1
                try clear hcz65_2
                try clear hcz65_3
                try clear hcz67_0
                try clear hcz67_1
                try clear hcz67_2
                try clear hcz67_3
                try clear hcz70_0
                try clear hcz70_1
                try clear hcz70_2
                try clear hcz70_3
                try clear hcz72_0
                try clear hcz72_1
                try clear hcz72_2
                try clear hcz72_3
                try clear hcz80_0
                try clear hcz80_1
                try clear hcz80_2
                try clear hcz80_3
                try clear hcz82_0
                try clear hcz82_1
                try clear hcz82_2
                try clear hcz82_3
                try clear hcz85_0
                try clear hcz85_1
                try clear hcz85_2
                try clear hcz85_3
                try clear hcz87_0
                try clear hcz87_1
                try clear hcz87_2
                try clear hcz87_3
                try clear hcz89_0
                try clear hcz89_1
                try clear hcz89_2
                try clear hcz89_3
                try clear hcz89_4
                try clear hcz89_5
                try clear hcz8_0
                try clear hcz8_1
                try clear hcz8_2
                try clear hcz8_3
                try clear hcz8_4
                try clear hcz8_5
                try clear hfz11_0
                try clear hfz11_1
                try clear hfz11_2
                try clear hfz11_3
                try clear hfz12_0
                try clear hfz12_1
                try clear hfz12_2
                try clear hfz12_3
                try clear hfz12_4
                try clear hfz12_5
                try clear hfz18_0
                try clear hfz18_1
                try clear hfz18_2
                try clear hfz18_3
                try clear hfz21_0
                try clear hfz21_1
                try clear hfz21_2
                try clear hfz21_3
                try clear hfz23_0
                try clear hfz23_1
                try clear hfz23_2
                try clear hfz23_3
                try clear hfz34_0
                try clear hfz34_1
                try clear hfz34_2
                try clear hfz34_3
                try clear hfz36_0
                try clear hfz36_1
                try clear hfz36_2
                try clear hfz36_3
                try clear hfz38_0
                try clear hfz38_1
                try clear hfz38_2
                try clear hfz38_3
                try clear hfz40_0
                try clear hfz40_1
                try clear hfz40_2
                try clear hfz40_3
                try clear hfz42_0
                try clear hfz42_1
                try clear hfz42_2
                try clear hfz42_3
                try clear hfz44_0
                try clear hfz44_1
                try clear hfz44_2
                try clear hfz44_3
                try clear hfz46_0
                try clear hfz46_1
                try clear hfz46_2
                try clear hfz46_3
                try clear hfz48_0
                try clear hfz48_1
                try clear hfz48_2
                try clear hfz48_3
                try clear hfz52_0
                try clear hfz52_1
                try clear hfz52_2
                try clear hfz52_3
                try clear hfz52_4
                try clear hfz52_5
                try clear hfz61_0
                try clear hfz61_1
                try clear hfz61_2
                try clear hfz61_3
                try clear hfz65_0
                try clear hfz65_1
                try clear hfz65_2
                try clear hfz65_3
                try clear hfz67_0
                try clear hfz67_1
                try clear hfz67_2
                try clear hfz67_3
                try clear hfz70_0
                try clear hfz70_1
                try clear hfz70_2
                try clear hfz70_3
                try clear hfz72_0
                try clear hfz72_1
                try clear hfz72_2
                try clear hfz72_3
                try clear hfz80_0
                try clear hfz80_1
                try clear hfz80_2
                try clear hfz80_3
                try clear hfz82_0
                try clear hfz82_1
                try clear hfz82_2
                try clear hfz82_3
                try clear hfz85_0
                try clear hfz85_1
                try clear hfz85_2
                try clear hfz85_3
                try clear hfz87_0
                try clear hfz87_1
                try clear hfz87_2
                try clear hfz87_3
                try clear hfz89_0
                try clear hfz89_1
                try clear hfz89_2
                try clear hfz89_3
                try clear hfz89_4
                try clear hfz89_5
                try clear hfz8_0
                try clear hfz8_1
                try clear hfz8_2
                try clear hfz8_3
                try clear hfz8_4
                try clear hfz8_5
                try clear hx175_0
                try clear hx175_1
                try clear hx175_2
                try clear hx175_3
                try clear hx186_0
                try clear hx186_1
                try clear hx186_2
                try clear hx186_3
                try clear p1
                try clear p17
                try clear p175
                try clear p18
                try clear p186
                try clear p2
                try clear p6
                try clear p64
                try clear q1
                try clear q17
                try clear q175
                try clear q18
                try clear q186
                try clear q5
                try clear q53
                obtain ⟨x121_3, rfl, HA, HK3, BK174, BK176, HB⟩ := hrel
                cases gk with
                | zero => exact absurd HA.out (by simp [floor_checkPort.l1])
                | succ k3 =>
                 have H := HA.out
                 clear HA
                 simp only [floor_checkPort.l1] at H
                 by_cases c90 : x121_3 < (l0_4.length : Int)
                 · rw [if_pos c90] at H
                   have c90b0 : decide (x121_3 < (l0_4.length : Int)) = true := decide_eq_true c90
                   clear c90
                   by_cases c91 : 0 ≤ x121_3
                   · rw [if_pos c91] at H
                     have c91b0 : decide (0 ≤ x121_3) = true := decide_eq_true c91
                     clear c91
                     by_cases c92 : x121_3 < (l0_4.length : Int)
                     · rw [if_pos c92] at H
                       have c92b0 : decide (x121_3 < (l0_4.length : Int)) = true := decide_eq_true c92
                       clear c92
                       by_cases c93 : ((rd_T100 l0_4 x121_3).f0) = 0
                       · rw [if_pos c93] at H
                         have c93b0 : (((rd_T100 l0_4 x121_3).f0) == 0) = true := beq_iff_eq.mpr c93
                         have c93b1 : (((rd_T100 l0_4 x121_3).f0) != 0) = false := bne_eq_false_iff_eq.mpr c93
                         clear c93
                         replace H := Option.bind_eq_some_iff.mp H
                         obtain ⟨t190, A940, H⟩ := H
                         replace H : (if t190 = true then ((floor_within.f ((rd_T96 l0_5 a1).f3) ((rd_T100 l0_4 x121_3).f2) ((rd_T100 l0_4 x121_3).f4)).bind fun t191 => (if t191 = true then (some 15) else (floor_checkPort.l1 k3 l0_4 (l0_4.length : Int) (wrap64 (x121_3 + 1)) ((rd_T96 l0_5 a1).f0) ((rd_T96 l0_5 a1).f1) ((rd_T96 l0_5 a1).f2) ((rd_T96 l0_5 a1).f3)))) else (floor_checkPort.l1 k3 l0_4 (l0_4.length : Int) (wrap64 (x121_3 + 1)) ((rd_T96 l0_5 a1).f0) ((rd_T96 l0_5 a1).f1) ((rd_T96 l0_5 a1).f2) ((rd_T96 l0_5 a1).f3))) = some r := H
                         have A94 := Aside0.mk A940
                         clear A940
                         by_cases c95 : t190 = true
                         · subst c95
                           have H1 : ((floor_within.f ((rd_T96 l0_5 a1).f3) ((rd_T100 l0_4 x121_3).f2) ((rd_T100 l0_4 x121_3).f4)).bind fun t191 => (if t191 = true then (some 15) else (floor_checkPort.l1 k3 l0_4 (l0_4.length : Int) (wrap64 (x121_3 + 1)) ((rd_T96 l0_5 a1).f0) ((rd_T96 l0_5 a1).f1) ((rd_T96 l0_5 a1).f2) ((rd_T96 l0_5 a1).f3)))) = some r := by rw [if_pos rfl] at H; exact H
                           clear H
                           have H := H1
                           clear H1
                           replace H := Option.bind_eq_some_iff.mp H
                           obtain ⟨t191, A960, H⟩ := H
                           replace H : (if t191 = true then (some 15) else (floor_checkPort.l1 k3 l0_4 (l0_4.length : Int) (wrap64 (x121_3 + 1)) ((rd_T96 l0_5 a1).f0) ((rd_T96 l0_5 a1).f1) ((rd_T96 l0_5 a1).f2) ((rd_T96 l0_5 a1).f3))) = some r := H
                           have A96 := Aside0.mk A960
                           clear A960
                           by_cases c97 : t191 = true
                           · subst c97
                             have H1 : (some 15) = some r := by rw [if_pos rfl] at H; exact H
                             clear H
                             have H := H1
                             clear H1
                             obtain rfl := Option.some.inj H
                             have p188 : 0 ≤ (x121_3 : Int) := of_decide_eq_true (by first | (with_reducible assumption) | assumption)
                             have q188 : x121_3 < (l0_4.length : Int) := of_decide_eq_true (by first | (with_reducible assumption) | assumption)
                             obtain ⟨ad188, e188, hx188_0, hx188_1, hx188_2, hx188_3, hx188_4⟩ := at_T100 HR0_4.out x121_3 p188 q188
                             cases e188
                             replace hx188_0 := (HB.out.cell (World.block_lt_of_cell? w _ hx188_0)).trans hx188_0
                             replace hx188_1 := (HB.out.cell (World.block_lt_of_cell? w _ hx188_1)).trans hx188_1
                             replace hx188_2 := (HB.out.cell (World.block_lt_of_cell? w _ hx188_2)).trans hx188_2
                             replace hx188_3 := (HB.out.cell (World.block_lt_of_cell? w _ hx188_3)).trans hx188_3
                             replace hx188_4 := (HB.out.cell (World.block_lt_of_cell? w _ hx188_4)).trans hx188_4
                             replace p188 := eq_true p188
                             replace q188 := eq_true q188
                             go_wp2_with (first | ((with_reducible refine gate_dst (N := 11) rfl ?_); refine box_event ?hg (N := 11) ?hd (cs := #[.int .i64 0, .int .i64 0, .int .i64 0, .int .i64 0, .int .i64 0]) (t := 100) ?hr ?_; (case hd => rfl); (case hg => rfl); (case hr => first | (go_simp; done) | (go_simp; rfl)); intro gb189 hg w98 hbox hb; have n0_ := Aside0.mk (blk_below (g := gb174) (o := .cells #[.int .i64 a0_0, .int .i64 a0_1, .int .i64 a0_2, .slice A0_3 l0_3.length c0_3, .slice (some ad188) l0_4.length c0_4, .slice (some ad175) l0_5.length c0_5] 57 (0, 0)) (by (with_reducible repeat (first | refine blk_drewN ?_ _ | refine blk_drew ?_ | refine blk_alloc ?_ _)); exact BK174.out) hb); have n1_ := Aside0.mk (blk_below (g := gb176) (o := .cells #[.string ((rd_T96 l0_5 a1).f0), .bool ((rd_T96 l0_5 a1).f1), .int .i64 ((rd_T96 l0_5 a1).f2), .int .i64 ((rd_T96 l0_5 a1).f3)] 96 (0, 0)) (by (with_reducible repeat (first | refine blk_drewN ?_ _ | refine blk_drew ?_ | refine blk_alloc ?_ _)); exact BK176.out) hb); have n2_ := Aside0.mk (below_step (by repeat (first | (with_reducible first | exact HB.out | apply below_alloc | apply pw_below_drewN | apply below_drew1 | refine below_set ?_ GE174.out | refine below_set ?_ GE176.out) | exact HB.out)) hb); have n3_ := Aside0.mk (hbox); have n4_ := Aside0.mk ((by rw [hg]; exact (below_size (by repeat (first | (with_reducible first | exact HB.out | apply below_alloc | apply pw_below_drewN | apply below_drew1 | refine below_set ?_ GE174.out | refine below_set ?_ GE176.out) | exact HB.out))) : w.heap.size ≤ gb189)); have n5_ := Aside0.mk ((by rw [hg]; exact (below_size (by repeat (first | (with_reducible first | exact HB.out | apply below_alloc | apply pw_below_drewN | apply below_drew1 | refine below_set ?_ GE174.out | refine below_set ?_ GE176.out) | exact HB.out))) : w.heap.size ≤ gb189)); have n6_ := Aside0.mk ((by rw [hg]; exact Nat.ne_of_lt (blk_lt (g := gb174) (o := .cells #[.int .i64 a0_0, .int .i64 a0_1, .int .i64 a0_2, .slice A0_3 l0_3.length c0_3, .slice (some ad188) l0_4.length c0_4, .slice (some ad175) l0_5.length c0_5] 57 (0, 0)) (by (with_reducible repeat (first | refine blk_drewN ?_ _ | refine blk_drew ?_ | refine blk_alloc ?_ _)); exact BK174.out)) : gb174 ≠ gb189)); have n7_ := Aside0.mk ((by rw [hg]; exact Nat.ne_of_gt (blk_lt (g := gb174) (o := .cells #[.int .i64 a0_0, .int .i64 a0_1, .int .i64 a0_2, .slice A0_3 l0_3.length c0_3, .slice (some ad188) l0_4.length c0_4, .slice (some ad175) l0_5.length c0_5] 57 (0, 0)) (by (with_reducible repeat (first | refine blk_drewN ?_ _ | refine blk_drew ?_ | refine blk_alloc ?_ _)); exact BK174.out)) : gb189 ≠ gb174)); have n8_ := Aside0.mk ((by rw [hg]; exact Nat.ne_of_lt (blk_lt (g := gb176) (o := .cells #[.string ((rd_T96 l0_5 a1).f0), .bool ((rd_T96 l0_5 a1).f1), .int .i64 ((rd_T96 l0_5 a1).f2), .int .i64 ((rd_T96 l0_5 a1).f3)] 96 (0, 0)) (by (with_reducible repeat (first | refine blk_drewN ?_ _ | refine blk_drew ?_ | refine blk_alloc ?_ _)); exact BK176.out)) : gb176 ≠ gb189)); have n9_ := Aside0.mk ((by rw [hg]; exact Nat.ne_of_gt (blk_lt (g := gb176) (o := .cells #[.string ((rd_T96 l0_5 a1).f0), .bool ((rd_T96 l0_5 a1).f1), .int .i64 ((rd_T96 l0_5 a1).f2), .int .i64 ((rd_T96 l0_5 a1).f3)] 96 (0, 0)) (by (with_reducible repeat (first | refine blk_drewN ?_ _ | refine blk_drew ?_ | refine blk_alloc ?_ _)); exact BK176.out)) : gb189 ≠ gb176)); clear BK174; clear BK176; clear HB; have BK174 := n0_; have BK176 := n1_; have HB := n2_; have BK189 := n3_; have GW189 := n4_; have GE189 := n5_; have NB174_189 := n6_; have NB189_174 := n7_; have NB176_189 := n8_; have NB189_176 := n9_; clear n0_ n1_ n2_ n3_ n4_ n5_ n6_ n7_ n8_ n9_; clear hb hbox hg; have hnb99 := NB189_174.out; have hnc99 := NB174_189.out; have hnb100 := NB189_176.out; have hnc100 := NB176_189.out; have hcz101_0 : w98.cell? ⟨gb189, 0, none⟩ = some (.int .i64 0) := (blk_cell BK189.out 0).trans rfl; have hcz101_1 : w98.cell? ⟨gb189, 1, none⟩ = some (.int .i64 0) := (blk_cell BK189.out 1).trans rfl; have hcz101_2 : w98.cell? ⟨gb189, 2, none⟩ = some (.int .i64 0) := (blk_cell BK189.out 2).trans rfl; have hcz101_3 : w98.cell? ⟨gb189, 3, none⟩ = some (.int .i64 0) := (blk_cell BK189.out 3).trans rfl; have hcz101_4 : w98.cell? ⟨gb189, 4, none⟩ = some (.int .i64 0) := (blk_cell BK189.out 4).trans rfl; have hfz101_0 := blk_frozen BK189.out 0; have hfz101_1 := blk_frozen BK189.out 1; have hfz101_2 := blk_frozen BK189.out 2; have hfz101_3 := blk_frozen BK189.out 3; have hfz101_4 := blk_frozen BK189.out 4; have hnb102 := NB176_174.out; have hnc102 := NB174_176.out; have hcz103_0 : w98.cell? ⟨gb176, 0, none⟩ = some (.string ((rd_T96 l0_5 a1).f0)) := (blk_cell BK176.out 0).trans rfl; have hcz103_1 : w98.cell? ⟨gb176, 1, none⟩ = some (.bool ((rd_T96 l0_5 a1).f1)) := (blk_cell BK176.out 1).trans rfl; have hcz103_2 : w98.cell? ⟨gb176, 2, none⟩ = some (.int .i64 ((rd_T96 l0_5 a1).f2)) := (blk_cell BK176.out 2).trans rfl; have hcz103_3 : w98.cell? ⟨gb176, 3, none⟩ = some (.int .i64 ((rd_T96 l0_5 a1).f3)) := (blk_cell BK176.out 3).trans rfl; have hfz103_0 := blk_frozen BK176.out 0; have hfz103_1 := blk_frozen BK176.out 1; have hfz103_2 := blk_frozen BK176.out 2; have hfz103_3 := blk_frozen BK176.out 3) | (go_at_call 49; (with_reducible refine (floor_within.calls ((rd_T96 l0_5 a1).f2) ((rd_T100 l0_4 x121_3).f1) ((rd_T100 l0_4 x121_3).f3) true _ A94.out).mono ?_); rintro e w' ⟨rfl, ⟨nd, rfl⟩⟩) | (go_at_call 49; (with_reducible refine (floor_within.calls ((rd_T96 l0_5 a1).f3) ((rd_T100 l0_4 x121_3).f2) ((rd_T100 l0_4 x121_3).f4) true _ A96.out).mono ?_); rintro e w' ⟨rfl, ⟨nd, rfl⟩⟩))
                             go_ret
                             exact ⟨by first | rfl | (simp [errW_none, errW_some] <;> rfl) | (simp [*, errW_none, errW_some] <;> rfl), by repeat (first | (with_reducible first | exact HB.out | apply below_alloc | apply pw_below_drewN | apply below_drew1 | refine below_set ?_ GE174.out | refine below_set ?_ GE176.out | refine below_set ?_ GE189.out) | exact HB.out)⟩
                           · replace c97 := Bool.eq_false_iff.mpr c97
                             subst c97
                             have H1 : (floor_checkPort.l1 k3 l0_4 (l0_4.length : Int) (wrap64 (x121_3 + 1)) ((rd_T96 l0_5 a1).f0) ((rd_T96 l0_5 a1).f1) ((rd_T96 l0_5 a1).f2) ((rd_T96 l0_5 a1).f3)) = some r := by rw [if_neg (show ¬ (false = true) by decide)] at H; exact H
                             clear H
                             have H := H1
                             clear H1
                             have H' := Aside0.mk H
                             clear H
                             have p188 : 0 ≤ (x121_3 : Int) := of_decide_eq_true (by first | (with_reducible assumption) | assumption)
                             have q188 : x121_3 < (l0_4.length : Int) := of_decide_eq_true (by first | (with_reducible assumption) | assumption)
                             obtain ⟨ad188, e188, hx188_0, hx188_1, hx188_2, hx188_3, hx188_4⟩ := at_T100 HR0_4.out x121_3 p188 q188
                             cases e188
                             replace hx188_0 := (HB.out.cell (World.block_lt_of_cell? w _ hx188_0)).trans hx188_0
                             replace hx188_1 := (HB.out.cell (World.block_lt_of_cell? w _ hx188_1)).trans hx188_1
                             replace hx188_2 := (HB.out.cell (World.block_lt_of_cell? w _ hx188_2)).trans hx188_2
                             replace hx188_3 := (HB.out.cell (World.block_lt_of_cell? w _ hx188_3)).trans hx188_3
                             replace hx188_4 := (HB.out.cell (World.block_lt_of_cell? w _ hx188_4)).trans hx188_4
                             replace p188 := eq_true p188
                             replace q188 := eq_true q188
                             go_wp2_with (first | ((with_reducible refine gate_dst (N := 11) rfl ?_); refine box_event ?hg (N := 11) ?hd (cs := #[.int .i64 0, .int .i64 0, .int .i64 0, .int .i64 0, .int .i64 0]) (t := 100) ?hr ?_; (case hd => rfl); (case hg => rfl); (case hr => first | (go_simp; done) | (go_simp; rfl)); intro gb189 hg w104 hbox hb; have n0_ := Aside0.mk (blk_below (g := gb174) (o := .cells #[.int .i64 a0_0, .int .i64 a0_1, .int .i64 a0_2, .slice A0_3 l0_3.length c0_3, .slice (some ad188) l0_4.length c0_4, .slice (some ad175) l0_5.length c0_5] 57 (0, 0)) (by (with_reducible repeat (first | refine blk_drewN ?_ _ | refine blk_drew ?_ | refine blk_alloc ?_ _)); exact BK174.out) hb); have n1_ := Aside0.mk (blk_below (g := gb176) (o := .cells #[.string ((rd_T96 l0_5 a1).f0), .bool ((rd_T96 l0_5 a1).f1), .int .i64 ((rd_T96 l0_5 a1).f2), .int .i64 ((rd_T96 l0_5 a1).f3)] 96 (0, 0)) (by (with_reducible repeat (first | refine blk_drewN ?_ _ | refine blk_drew ?_ | refine blk_alloc ?_ _)); exact BK176.out) hb); have n2_ := Aside0.mk (below_step (by repeat (first | (with_reducible first | exact HB.out | apply below_alloc | apply pw_below_drewN | apply below_drew1 | refine below_set ?_ GE174.out | refine below_set ?_ GE176.out) | exact HB.out)) hb); have n3_ := Aside0.mk (hbox); have n4_ := Aside0.mk ((by rw [hg]; exact (below_size (by repeat (first | (with_reducible first | exact HB.out | apply below_alloc | apply pw_below_drewN | apply below_drew1 | refine below_set ?_ GE174.out | refine below_set ?_ GE176.out) | exact HB.out))) : w.heap.size ≤ gb189)); have n5_ := Aside0.mk ((by rw [hg]; exact (below_size (by repeat (first | (with_reducible first | exact HB.out | apply below_alloc | apply pw_below_drewN | apply below_drew1 | refine below_set ?_ GE174.out | refine below_set ?_ GE176.out) | exact HB.out))) : w.heap.size ≤ gb189)); have n6_ := Aside0.mk ((by rw [hg]; exact Nat.ne_of_lt (blk_lt (g := gb174) (o := .cells #[.int .i64 a0_0, .int .i64 a0_1, .int .i64 a0_2, .slice A0_3 l0_3.length c0_3, .slice (some ad188) l0_4.length c0_4, .slice (some ad175) l0_5.length c0_5] 57 (0, 0)) (by (with_reducible repeat (first | refine blk_drewN ?_ _ | refine blk_drew ?_ | refine blk_alloc ?_ _)); exact BK174.out)) : gb174 ≠ gb189)); have n7_ := Aside0.mk ((by rw [hg]; exact Nat.ne_of_gt (blk_lt (g := gb174) (o := .cells #[.int .i64 a0_0, .int .i64 a0_1, .int .i64 a0_2, .slice A0_3 l0_3.length c0_3, .slice (some ad188) l0_4.length c0_4, .slice (some ad175) l0_5.length c0_5] 57 (0, 0)) (by (with_reducible repeat (first | refine blk_drewN ?_ _ | refine blk_drew ?_ | refine blk_alloc ?_ _)); exact BK174.out)) : gb189 ≠ gb174)); have n8_ := Aside0.mk ((by rw [hg]; exact Nat.ne_of_lt (blk_lt (g := gb176) (o := .cells #[.string ((rd_T96 l0_5 a1).f0), .bool ((rd_T96 l0_5 a1).f1), .int .i64 ((rd_T96 l0_5 a1).f2), .int .i64 ((rd_T96 l0_5 a1).f3)] 96 (0, 0)) (by (with_reducible repeat (first | refine blk_drewN ?_ _ | refine blk_drew ?_ | refine blk_alloc ?_ _)); exact BK176.out)) : gb176 ≠ gb189)); have n9_ := Aside0.mk ((by rw [hg]; exact Nat.ne_of_gt (blk_lt (g := gb176) (o := .cells #[.string ((rd_T96 l0_5 a1).f0), .bool ((rd_T96 l0_5 a1).f1), .int .i64 ((rd_T96 l0_5 a1).f2), .int .i64 ((rd_T96 l0_5 a1).f3)] 96 (0, 0)) (by (with_reducible repeat (first | refine blk_drewN ?_ _ | refine blk_drew ?_ | refine blk_alloc ?_ _)); exact BK176.out)) : gb189 ≠ gb176)); clear BK174; clear BK176; clear HB; have BK174 := n0_; have BK176 := n1_; have HB := n2_; have BK189 := n3_; have GW189 := n4_; have GE189 := n5_; have NB174_189 := n6_; have NB189_174 := n7_; have NB176_189 := n8_; have NB189_176 := n9_; clear n0_ n1_ n2_ n3_ n4_ n5_ n6_ n7_ n8_ n9_; clear hb hbox hg; have hnb105 := NB189_174.out; have hnc105 := NB174_189.out; have hnb106 := NB189_176.out; have hnc106 := NB176_189.out; have hcz107_0 : w104.cell? ⟨gb189, 0, none⟩ = some (.int .i64 0) := (blk_cell BK189.out 0).trans rfl; have hcz107_1 : w104.cell? ⟨gb189, 1, none⟩ = some (.int .i64 0) := (blk_cell BK189.out 1).trans rfl; have hcz107_2 : w104.cell? ⟨gb189, 2, none⟩ = some (.int .i64 0) := (blk_cell BK189.out 2).trans rfl; have hcz107_3 : w104.cell? ⟨gb189, 3, none⟩ = some (.int .i64 0) := (blk_cell BK189.out 3).trans rfl; have hcz107_4 : w104.cell? ⟨gb189, 4, none⟩ = some (.int .i64 0) := (blk_cell BK189.out 4).trans rfl; have hfz107_0 := blk_frozen BK189.out 0; have hfz107_1 := blk_frozen BK189.out 1; have hfz107_2 := blk_frozen BK189.out 2; have hfz107_3 := blk_frozen BK189.out 3; have hfz107_4 := blk_frozen BK189.out 4; have hnb108 := NB176_174.out; have hnc108 := NB174_176.out; have hcz109_0 : w104.cell? ⟨gb176, 0, none⟩ = some (.string ((rd_T96 l0_5 a1).f0)) := (blk_cell BK176.out 0).trans rfl; have hcz109_1 : w104.cell? ⟨gb176, 1, none⟩ = some (.bool ((rd_T96 l0_5 a1).f1)) := (blk_cell BK176.out 1).trans rfl; have hcz109_2 : w104.cell? ⟨gb176, 2, none⟩ = some (.int .i64 ((rd_T96 l0_5 a1).f2)) := (blk_cell BK176.out 2).trans rfl; have hcz109_3 : w104.cell? ⟨gb176, 3, none⟩ = some (.int .i64 ((rd_T96 l0_5 a1).f3)) := (blk_cell BK176.out 3).trans rfl; have hfz109_0 := blk_frozen BK176.out 0; have hfz109_1 := blk_frozen BK176.out 1; have hfz109_2 := blk_frozen BK176.out 2; have hfz109_3 := blk_frozen BK176.out 3) | (go_at_call 49; (with_reducible refine (floor_within.calls ((rd_T96 l0_5 a1).f2) ((rd_T100 l0_4 x121_3).f1) ((rd_T100 l0_4 x121_3).f3) true _ A94.out).mono ?_); rintro e w' ⟨rfl, ⟨nd, rfl⟩⟩) | (go_at_call 49; (with_reducible refine (floor_within.calls ((rd_T96 l0_5 a1).f3) ((rd_T100 l0_4 x121_3).f2) ((rd_T100 l0_4 x121_3).f4) false _ A96.out).mono ?_); rintro e w' ⟨rfl, ⟨nd, rfl⟩⟩))
                             go_roundg k3
                             case measure => have := HJ5.out; have := HK2.out; have := HK3.out; omega
                             case rel => exact ⟨(wrap64 (x121_3 + 1)), (by first | rfl | (simp; done) | (simp [*]; done)), H', ⟨by have := HJ5.out; have := HK2.out; have := HK3.out; omega⟩, ⟨by (with_reducible repeat (first | refine blk_drewN ?_ _ | refine blk_drew ?_ | refine blk_alloc ?_ _)); refine blk_far ?_ NB174_189.out _; (with_reducible repeat (first | refine blk_drewN ?_ _ | refine blk_drew ?_ | refine blk_alloc ?_ _)); refine blk_far ?_ NB174_189.out _; (with_reducible repeat (first | refine blk_drewN ?_ _ | refine blk_drew ?_ | refine blk_alloc ?_ _)); refine blk_far ?_ NB174_189.out _; (with_reducible repeat (first | refine blk_drewN ?_ _ | refine blk_drew ?_ | refine blk_alloc ?_ _)); refine blk_far ?_ NB174_189.out _; (with_reducible repeat (first | refine blk_drewN ?_ _ | refine blk_drew ?_ | refine blk_alloc ?_ _)); refine blk_far ?_ NB174_189.out _; (with_reducible repeat (first | refine blk_drewN ?_ _ | refine blk_drew ?_ | refine blk_alloc ?_ _)); exact BK174.out⟩, ⟨by (with_reducible repeat (first | refine blk_drewN ?_ _ | refine blk_drew ?_ | refine blk_alloc ?_ _)); refine blk_far ?_ NB176_189.out _; (with_reducible repeat (first | refine blk_drewN ?_ _ | refine blk_drew ?_ | refine blk_alloc ?_ _)); refine blk_far ?_ NB176_189.out _; (with_reducible repeat (first | refine blk_drewN ?_ _ | refine blk_drew ?_ | refine blk_alloc ?_ _)); refine blk_far ?_ NB176_189.out _; (with_reducible repeat (first | refine blk_drewN ?_ _ | refine blk_drew ?_ | refine blk_alloc ?_ _)); refine blk_far ?_ NB176_189.out _; (with_reducible repeat (first | refine blk_drewN ?_ _ | refine blk_drew ?_ | refine blk_alloc ?_ _)); refine blk_far ?_ NB176_189.out _; (with_reducible repeat (first | refine blk_drewN ?_ _ | refine blk_drew ?_ | refine blk_alloc ?_ _)); exact BK176.out⟩, ⟨by repeat (first | (with_reducible first | exact HB.out | apply below_alloc | apply pw_below_drewN | apply below_drew1 | refine below_set ?_ GE174.out | refine below_set ?_ GE176.out | refine below_set ?_ GE189.out) | exact HB.out)⟩⟩
                         · replace c95 := Bool.eq_false_iff.mpr c95
                           subst c95
                           have H1 : (floor_checkPort.l1 k3 l0_4 (l0_4.length : Int) (wrap64 (x121_3 + 1)) ((rd_T96 l0_5 a1).f0) ((rd_T96 l0_5 a1).f1) ((rd_T96 l0_5 a1).f2) ((rd_T96 l0_5 a1).f3)) = some r := by rw [if_neg (show ¬ (false = true) by decide)] at H; exact H
                           clear H
                           have H := H1
                           clear H1
                           have H' := Aside0.mk H
                           clear H
                           have p188 : 0 ≤ (x121_3 : Int) := of_decide_eq_true (by first | (with_reducible assumption) | assumption)
                           have q188 : x121_3 < (l0_4.length : Int) := of_decide_eq_true (by first | (with_reducible assumption) | assumption)
                           obtain ⟨ad188, e188, hx188_0, hx188_1, hx188_2, hx188_3, hx188_4⟩ := at_T100 HR0_4.out x121_3 p188 q188
                           cases e188
                           replace hx188_0 := (HB.out.cell (World.block_lt_of_cell? w _ hx188_0)).trans hx188_0
                           replace hx188_1 := (HB.out.cell (World.block_lt_of_cell? w _ hx188_1)).trans hx188_1
                           replace hx188_2 := (HB.out.cell (World.block_lt_of_cell? w _ hx188_2)).trans hx188_2
                           replace hx188_3 := (HB.out.cell (World.block_lt_of_cell? w _ hx188_3)).trans hx188_3
                           replace hx188_4 := (HB.out.cell (World.block_lt_of_cell? w _ hx188_4)).trans hx188_4
                           replace p188 := eq_true p188
                           replace q188 := eq_true q188
                           go_wp2_with (first | ((with_reducible refine gate_dst (N := 11) rfl ?_); refine box_event ?hg (N := 11) ?hd (cs := #[.int .i64 0, .int .i64 0, .int .i64 0, .int .i64 0, .int .i64 0]) (t := 100) ?hr ?_; (case hd => rfl); (case hg => rfl); (case hr => first | (go_simp; done) | (go_simp; rfl)); intro gb189 hg w110 hbox hb; have n0_ := Aside0.mk (blk_below (g := gb174) (o := .cells #[.int .i64 a0_0, .int .i64 a0_1, .int .i64 a0_2, .slice A0_3 l0_3.length c0_3, .slice (some ad188) l0_4.length c0_4, .slice (some ad175) l0_5.length c0_5] 57 (0, 0)) (by (with_reducible repeat (first | refine blk_drewN ?_ _ | refine blk_drew ?_ | refine blk_alloc ?_ _)); exact BK174.out) hb); have n1_ := Aside0.mk (blk_below (g := gb176) (o := .cells #[.string ((rd_T96 l0_5 a1).f0), .bool ((rd_T96 l0_5 a1).f1), .int .i64 ((rd_T96 l0_5 a1).f2), .int .i64 ((rd_T96 l0_5 a1).f3)] 96 (0, 0)) (by (with_reducible repeat (first | refine blk_drewN ?_ _ | refine blk_drew ?_ | refine blk_alloc ?_ _)); exact BK176.out) hb); have n2_ := Aside0.mk (below_step (by repeat (first | (with_reducible first | exact HB.out | apply below_alloc | apply pw_below_drewN | apply below_drew1 | refine below_set ?_ GE174.out | refine below_set ?_ GE176.out) | exact HB.out)) hb); have n3_ := Aside0.mk (hbox); have n4_ := Aside0.mk ((by rw [hg]; exact (below_size (by repeat (first | (with_reducible first | exact HB.out | apply below_alloc | apply pw_below_drewN | apply below_drew1 | refine below_set ?_ GE174.out | refine below_set ?_ GE176.out) | exact HB.out))) : w.heap.size ≤ gb189)); have n5_ := Aside0.mk ((by rw [hg]; exact (below_size (by repeat (first | (with_reducible first | exact HB.out | apply below_alloc | apply pw_below_drewN | apply below_drew1 | refine below_set ?_ GE174.out | refine below_set ?_ GE176.out) | exact HB.out))) : w.heap.size ≤ gb189)); have n6_ := Aside0.mk ((by rw [hg]; exact Nat.ne_of_lt (blk_lt (g := gb174) (o := .cells #[.int .i64 a0_0, .int .i64 a0_1, .int .i64 a0_2, .slice A0_3 l0_3.length c0_3, .slice (some ad188) l0_4.length c0_4, .slice (some ad175) l0_5.length c0_5] 57 (0, 0)) (by (with_reducible repeat (first | refine blk_drewN ?_ _ | refine blk_drew ?_ | refine blk_alloc ?_ _)); exact BK174.out)) : gb174 ≠ gb189)); have n7_ := Aside0.mk ((by rw [hg]; exact Nat.ne_of_gt (blk_lt (g := gb174) (o := .cells #[.int .i64 a0_0, .int .i64 a0_1, .int .i64 a0_2, .slice A0_3 l0_3.length c0_3, .slice (some ad188) l0_4.length c0_4, .slice (some ad175) l0_5.length c0_5] 57 (0, 0)) (by (with_reducible repeat (first | refine blk_drewN ?_ _ | refine blk_drew ?_ | refine blk_alloc ?_ _)); exact BK174.out)) : gb189 ≠ gb174)); have n8_ := Aside0.mk ((by rw [hg]; exact Nat.ne_of_lt (blk_lt (g := gb176) (o := .cells #[.string ((rd_T96 l0_5 a1).f0), .bool ((rd_T96 l0_5 a1).f1), .int .i64 ((rd_T96 l0_5 a1).f2), .int .i64 ((rd_T96 l0_5 a1).f3)] 96 (0, 0)) (by (with_reducible repeat (first | refine blk_drewN ?_ _ | refine blk_drew ?_ | refine blk_alloc ?_ _)); exact BK176.out)) : gb176 ≠ gb189)); have n9_ := Aside0.mk ((by rw [hg]; exact Nat.ne_of_gt (blk_lt (g := gb176) (o := .cells #[.string ((rd_T96 l0_5 a1).f0), .bool ((rd_T96 l0_5 a1).f1), .int .i64 ((rd_T96 l0_5 a1).f2), .int .i64 ((rd_T96 l0_5 a1).f3)] 96 (0, 0)) (by (with_reducible repeat (first | refine blk_drewN ?_ _ | refine blk_drew ?_ | refine blk_alloc ?_ _)); exact BK176.out)) : gb189 ≠ gb176)); clear BK174; clear BK176; clear HB; have BK174 := n0_; have BK176 := n1_; have HB := n2_; have BK189 := n3_; have GW189 := n4_; have GE189 := n5_; have NB174_189 := n6_; have NB189_174 := n7_; have NB176_189 := n8_; have NB189_176 := n9_; clear n0_ n1_ n2_ n3_ n4_ n5_ n6_ n7_ n8_ n9_; clear hb hbox hg; have hnb111 := NB189_174.out; have hnc111 := NB174_189.out; have hnb112 := NB189_176.out; have hnc112 := NB176_189.out; have hcz113_0 : w110.cell? ⟨gb189, 0, none⟩ = some (.int .i64 0) := (blk_cell BK189.out 0).trans rfl; have hcz113_1 : w110.cell? ⟨gb189, 1, none⟩ = some (.int .i64 0) := (blk_cell BK189.out 1).trans rfl; have hcz113_2 : w110.cell? ⟨gb189, 2, none⟩ = some (.int .i64 0) := (blk_cell BK189.out 2).trans rfl; have hcz113_3 : w110.cell? ⟨gb189, 3, none⟩ = some (.int .i64 0) := (blk_cell BK189.out 3).trans rfl; have hcz113_4 : w110.cell? ⟨gb189, 4, none⟩ = some (.int .i64 0) := (blk_cell BK189.out 4).trans rfl; have hfz113_0 := blk_frozen BK189.out 0; have hfz113_1 := blk_frozen BK189.out 1; have hfz113_2 := blk_frozen BK189.out 2; have hfz113_3 := blk_frozen BK189.out 3; have hfz113_4 := blk_frozen BK189.out 4; have hnb114 := NB176_174.out; have hnc114 := NB174_176.out; have hcz115_0 : w110.cell? ⟨gb176, 0, none⟩ = some (.string ((rd_T96 l0_5 a1).f0)) := (blk_cell BK176.out 0).trans rfl; have hcz115_1 : w110.cell? ⟨gb176, 1, none⟩ = some (.bool ((rd_T96 l0_5 a1).f1)) := (blk_cell BK176.out 1).trans rfl; have hcz115_2 : w110.cell? ⟨gb176, 2, none⟩ = some (.int .i64 ((rd_T96 l0_5 a1).f2)) := (blk_cell BK176.out 2).trans rfl; have hcz115_3 : w110.cell? ⟨gb176, 3, none⟩ = some (.int .i64 ((rd_T96 l0_5 a1).f3)) := (blk_cell BK176.out 3).trans rfl; have hfz115_0 := blk_frozen BK176.out 0; have hfz115_1 := blk_frozen BK176.out 1; have hfz115_2 := blk_frozen BK176.out 2; have hfz115_3 := blk_frozen BK176.out 3) | (go_at_call 49; (with_reducible refine (floor_within.calls ((rd_T96 l0_5 a1).f2) ((rd_T100 l0_4 x121_3).f1) ((rd_T100 l0_4 x121_3).f3) false _ A94.out).mono ?_); rintro e w' ⟨rfl, ⟨nd, rfl⟩⟩))
                           go_roundg k3
                           case measure => have := HJ5.out; have := HK2.out; have := HK3.out; omega
                           case rel => exact ⟨(wrap64 (x121_3 + 1)), (by first | rfl | (simp; done) | (simp [*]; done)), H', ⟨by have := HJ5.out; have := HK2.out; have := HK3.out; omega⟩, ⟨by (with_reducible repeat (first | refine blk_drewN ?_ _ | refine blk_drew ?_ | refine blk_alloc ?_ _)); refine blk_far ?_ NB174_189.out _; (with_reducible repeat (first | refine blk_drewN ?_ _ | refine blk_drew ?_ | refine blk_alloc ?_ _)); refine blk_far ?_ NB174_189.out _; (with_reducible repeat (first | refine blk_drewN ?_ _ | refine blk_drew ?_ | refine blk_alloc ?_ _)); refine blk_far ?_ NB174_189.out _; (with_reducible repeat (first | refine blk_drewN ?_ _ | refine blk_drew ?_ | refine blk_alloc ?_ _)); refine blk_far ?_ NB174_189.out _; (with_reducible repeat (first | refine blk_drewN ?_ _ | refine blk_drew ?_ | refine blk_alloc ?_ _)); refine blk_far ?_ NB174_189.out _; (with_reducible repeat (first | refine blk_drewN ?_ _ | refine blk_drew ?_ | refine blk_alloc ?_ _)); exact BK174.out⟩, ⟨by (with_reducible repeat (first | refine blk_drewN ?_ _ | refine blk_drew ?_ | refine blk_alloc ?_ _)); refine blk_far ?_ NB176_189.out _; (with_reducible repeat (first | refine blk_drewN ?_ _ | refine blk_drew ?_ | refine blk_alloc ?_ _)); refine blk_far ?_ NB176_189.out _; (with_reducible repeat (first | refine blk_drewN ?_ _ | refine blk_drew ?_ | refine blk_alloc ?_ _)); refine blk_far ?_ NB176_189.out _; (with_reducible repeat (first | refine blk_drewN ?_ _ | refine blk_drew ?_ | refine blk_alloc ?_ _)); refine blk_far ?_ NB176_189.out _; (with_reducible repeat (first | refine blk_drewN ?_ _ | refine blk_drew ?_ | refine blk_alloc ?_ _)); refine blk_far ?_ NB176_189.out _; (with_reducible repeat (first | refine blk_drewN ?_ _ | refine blk_drew ?_ | refine blk_alloc ?_ _)); exact BK176.out⟩, ⟨by repeat (first | (with_reducible first | exact HB.out | apply below_alloc | apply pw_below_drewN | apply below_drew1 | refine below_set ?_ GE174.out | refine below_set ?_ GE176.out | refine below_set ?_ GE189.out) | exact HB.out)⟩⟩
                       · rw [if_neg c93] at H
                         have c93b0 : (((rd_T100 l0_4 x121_3).f0) == 0) = false := beq_eq_false_iff_ne.mpr c93
                         have c93b1 : (((rd_T100 l0_4 x121_3).f0) != 0) = true := bne_iff_ne.mpr c93
                         have H' := Aside0.mk H
                         clear H
                         have p188 : 0 ≤ (x121_3 : Int) := of_decide_eq_true (by first | (with_reducible assumption) | assumption)
                         have q188 : x121_3 < (l0_4.length : Int) := of_decide_eq_true (by first | (with_reducible assumption) | assumption)
                         obtain ⟨ad188, e188, hx188_0, hx188_1, hx188_2, hx188_3, hx188_4⟩ := at_T100 HR0_4.out x121_3 p188 q188
                         cases e188
                         replace hx188_0 := (HB.out.cell (World.block_lt_of_cell? w _ hx188_0)).trans hx188_0
                         replace hx188_1 := (HB.out.cell (World.block_lt_of_cell? w _ hx188_1)).trans hx188_1
                         replace hx188_2 := (HB.out.cell (World.block_lt_of_cell? w _ hx188_2)).trans hx188_2
                         replace hx188_3 := (HB.out.cell (World.block_lt_of_cell? w _ hx188_3)).trans hx188_3
                         replace hx188_4 := (HB.out.cell (World.block_lt_of_cell? w _ hx188_4)).trans hx188_4
                         replace p188 := eq_true p188
                         replace q188 := eq_true q188
                         go_wp2_with (first | ((with_reducible refine gate_dst (N := 11) rfl ?_); refine box_event ?hg (N := 11) ?hd (cs := #[.int .i64 0, .int .i64 0, .int .i64 0, .int .i64 0, .int .i64 0]) (t := 100) ?hr ?_; (case hd => rfl); (case hg => rfl); (case hr => first | (go_simp; done) | (go_simp; rfl)); intro gb189 hg w116 hbox hb; have n0_ := Aside0.mk (blk_below (g := gb174) (o := .cells #[.int .i64 a0_0, .int .i64 a0_1, .int .i64 a0_2, .slice A0_3 l0_3.length c0_3, .slice (some ad188) l0_4.length c0_4, .slice (some ad175) l0_5.length c0_5] 57 (0, 0)) (by (with_reducible repeat (first | refine blk_drewN ?_ _ | refine blk_drew ?_ | refine blk_alloc ?_ _)); exact BK174.out) hb); have n1_ := Aside0.mk (blk_below (g := gb176) (o := .cells #[.string ((rd_T96 l0_5 a1).f0), .bool ((rd_T96 l0_5 a1).f1), .int .i64 ((rd_T96 l0_5 a1).f2), .int .i64 ((rd_T96 l0_5 a1).f3)] 96 (0, 0)) (by (with_reducible repeat (first | refine blk_drewN ?_ _ | refine blk_drew ?_ | refine blk_alloc ?_ _)); exact BK176.out) hb); have n2_ := Aside0.mk (below_step (by repeat (first | (with_reducible first | exact HB.out | apply below_alloc | apply pw_below_drewN | apply below_drew1 | refine below_set ?_ GE174.out | refine below_set ?_ GE176.out) | exact HB.out)) hb); have n3_ := Aside0.mk (hbox); have n4_ := Aside0.mk ((by rw [hg]; exact (below_size (by repeat (first | (with_reducible first | exact HB.out | apply below_alloc | apply pw_below_drewN | apply below_drew1 | refine below_set ?_ GE174.out | refine below_set ?_ GE176.out) | exact HB.out))) : w.heap.size ≤ gb189)); have n5_ := Aside0.mk ((by rw [hg]; exact (below_size (by repeat (first | (with_reducible first | exact HB.out | apply below_alloc | apply pw_below_drewN | apply below_drew1 | refine below_set ?_ GE174.out | refine below_set ?_ GE176.out) | exact HB.out))) : w.heap.size ≤ gb189)); have n6_ := Aside0.mk ((by rw [hg]; exact Nat.ne_of_lt (blk_lt (g := gb174) (o := .cells #[.int .i64 a0_0, .int .i64 a0_1, .int .i64 a0_2, .slice A0_3 l0_3.length c0_3, .slice (some ad188) l0_4.length c0_4, .slice (some ad175) l0_5.length c0_5] 57 (0, 0)) (by (with_reducible repeat (first | refine blk_drewN ?_ _ | refine blk_drew ?_ | refine blk_alloc ?_ _)); exact BK174.out)) : gb174 ≠ gb189)); have n7_ := Aside0.mk ((by rw [hg]; exact Nat.ne_of_gt (blk_lt (g := gb174) (o := .cells #[.int .i64 a0_0, .int .i64 a0_1, .int .i64 a0_2, .slice A0_3 l0_3.length c0_3, .slice (some ad188) l0_4.length c0_4, .slice (some ad175) l0_5.length c0_5] 57 (0, 0)) (by (with_reducible repeat (first | refine blk_drewN ?_ _ | refine blk_drew ?_ | refine blk_alloc ?_ _)); exact BK174.out)) : gb189 ≠ gb174)); have n8_ := Aside0.mk ((by rw [hg]; exact Nat.ne_of_lt (blk_lt (g := gb176) (o := .cells #[.string ((rd_T96 l0_5 a1).f0), .bool ((rd_T96 l0_5 a1).f1), .int .i64 ((rd_T96 l0_5 a1).f2), .int .i64 ((rd_T96 l0_5 a1).f3)] 96 (0, 0)) (by (with_reducible repeat (first | refine blk_drewN ?_ _ | refine blk_drew ?_ | refine blk_alloc ?_ _)); exact BK176.out)) : gb176 ≠ gb189)); have n9_ := Aside0.mk ((by rw [hg]; exact Nat.ne_of_gt (blk_lt (g := gb176) (o := .cells #[.string ((rd_T96 l0_5 a1).f0), .bool ((rd_T96 l0_5 a1).f1), .int .i64 ((rd_T96 l0_5 a1).f2), .int .i64 ((rd_T96 l0_5 a1).f3)] 96 (0, 0)) (by (with_reducible repeat (first | refine blk_drewN ?_ _ | refine blk_drew ?_ | refine blk_alloc ?_ _)); exact BK176.out)) : gb189 ≠ gb176)); clear BK174; clear BK176; clear HB; have BK174 := n0_; have BK176 := n1_; have HB := n2_; have BK189 := n3_; have GW189 := n4_; have GE189 := n5_; have NB174_189 := n6_; have NB189_174 := n7_; have NB176_189 := n8_; have NB189_176 := n9_; clear n0_ n1_ n2_ n3_ n4_ n5_ n6_ n7_ n8_ n9_; clear hb hbox hg; have hnb117 := NB189_174.out; have hnc117 := NB174_189.out; have hnb118 := NB189_176.out; have hnc118 := NB176_189.out; have hcz119_0 : w116.cell? ⟨gb189, 0, none⟩ = some (.int .i64 0) := (blk_cell BK189.out 0).trans rfl; have hcz119_1 : w116.cell? ⟨gb189, 1, none⟩ = some (.int .i64 0) := (blk_cell BK189.out 1).trans rfl; have hcz119_2 : w116.cell? ⟨gb189, 2, none⟩ = some (.int .i64 0) := (blk_cell BK189.out 2).trans rfl; have hcz119_3 : w116.cell? ⟨gb189, 3, none⟩ = some (.int .i64 0) := (blk_cell BK189.out 3).trans rfl; have hcz119_4 : w116.cell? ⟨gb189, 4, none⟩ = some (.int .i64 0) := (blk_cell BK189.out 4).trans rfl; have hfz119_0 := blk_frozen BK189.out 0; have hfz119_1 := blk_frozen BK189.out 1; have hfz119_2 := blk_frozen BK189.out 2; have hfz119_3 := blk_frozen BK189.out 3; have hfz119_4 := blk_frozen BK189.out 4))
                         go_roundg k3
                         case measure => have := HJ5.out; have := HK2.out; have := HK3.out; omega
                         case rel => exact ⟨(wrap64 (x121_3 + 1)), (by first | rfl | (simp; done) | (simp [*]; done)), H', ⟨by have := HJ5.out; have := HK2.out; have := HK3.out; omega⟩, ⟨by (with_reducible repeat (first | refine blk_drewN ?_ _ | refine blk_drew ?_ | refine blk_alloc ?_ _)); refine blk_far ?_ NB174_189.out _; (with_reducible repeat (first | refine blk_drewN ?_ _ | refine blk_drew ?_ | refine blk_alloc ?_ _)); refine blk_far ?_ NB174_189.out _; (with_reducible repeat (first | refine blk_drewN ?_ _ | refine blk_drew ?_ | refine blk_alloc ?_ _)); refine blk_far ?_ NB174_189.out _; (with_reducible repeat (first | refine blk_drewN ?_ _ | refine blk_drew ?_ | refine blk_alloc ?_ _)); refine blk_far ?_ NB174_189.out _; (with_reducible repeat (first | refine blk_drewN ?_ _ | refine blk_drew ?_ | refine blk_alloc ?_ _)); refine blk_far ?_ NB174_189.out _; (with_reducible repeat (first | refine blk_drewN ?_ _ | refine blk_drew ?_ | refine blk_alloc ?_ _)); exact BK174.out⟩, ⟨by (with_reducible repeat (first | refine blk_drewN ?_ _ | refine blk_drew ?_ | refine blk_alloc ?_ _)); refine blk_far ?_ NB176_189.out _; (with_reducible repeat (first | refine blk_drewN ?_ _ | refine blk_drew ?_ | refine blk_alloc ?_ _)); refine blk_far ?_ NB176_189.out _; (with_reducible repeat (first | refine blk_drewN ?_ _ | refine blk_drew ?_ | refine blk_alloc ?_ _)); refine blk_far ?_ NB176_189.out _; (with_reducible repeat (first | refine blk_drewN ?_ _ | refine blk_drew ?_ | refine blk_alloc ?_ _)); refine blk_far ?_ NB176_189.out _; (with_reducible repeat (first | refine blk_drewN ?_ _ | refine blk_drew ?_ | refine blk_alloc ?_ _)); refine blk_far ?_ NB176_189.out _; (with_reducible repeat (first | refine blk_drewN ?_ _ | refine blk_drew ?_ | refine blk_alloc ?_ _)); exact BK176.out⟩, ⟨by repeat (first | (with_reducible first | exact HB.out | apply below_alloc | apply pw_below_drewN | apply below_drew1 | refine below_set ?_ GE174.out | refine below_set ?_ GE176.out | refine below_set ?_ GE189.out) | exact HB.out)⟩⟩
                     · rw [if_neg c92] at H
                       exact absurd H (by simp)
                   · rw [if_neg c91] at H
                     exact absurd H (by simp)
                 · rw [if_neg c90] at H
                   have c90b0 : decide (x121_3 < (l0_4.length : Int)) = false := decide_eq_false c90
                   clear c90
                   obtain rfl := Option.some.inj H
                   go_wp2
                   go_ret
                   exact ⟨by first | rfl | (simp [errW_none, errW_some] <;> rfl) | (simp [*, errW_none, errW_some] <;> rfl), by repeat (first | (with_reducible first | exact HB.out | apply below_alloc | apply pw_below_drewN | apply below_drew1 | refine below_set ?_ GE174.out | refine below_set ?_ GE176.out) | exact HB.out)⟩
         · rw [if_neg c50] at H
           exact absurd H (by simp)
       · rw [if_neg c49] at H
         exact absurd H (by simp)
   · rw [if_neg c4] at H
     exact absurd H (by simp)
 · rw [if_neg c3] at H
   exact absurd H (by simp)

end Go.Proofs.Ytgajgnemfccnhaa.PA
