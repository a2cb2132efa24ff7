-- PRINTED by print.py (a twelfth state) out of the translation. Not trusted: Lean checks it.
import Derived.Test.YtlegjcagkmjfjaaDoorCmp
import Derived.Test.YtlegjcagkmjfjaaDoorPTx0
import Derived.Test.YtlegjcagkmjfjaaDoorPTx33
import Derived.Test.YtlegjcagkmjfjaaDoorPTx48
import Derived.Test.YtlegjcagkmjfjaaDoorPTx60
namespace Go.Proofs.YtlegjcagkmjfjaaDoor.PT
open Go.RowKit Go.Proofs.YtlegjcagkmjfjaaDoorW.PrintWords Go.Proofs.YtlegjcagkmjfjaaDoorW.PrintLast Go.Proofs.YtlegjcagkmjfjaaDoorW.PrintMore
attribute [local go_sem] max2_int min2_int max_two min_two max_three min_three max_four min_four   -- for this text's walks alone
private theorem z1 {α : Type} {l : List α} {i : Nat} {a : α} : l.toArray.setIfInBounds i a = (l.set i a).toArray := List.setIfInBounds_toArray _ _ _
private theorem z2 {α : Type} {x : α} {xs : List α} {a : α} : (x :: xs).set 0 a = a :: xs := List.set_cons_zero
private theorem z3 {α : Type} {x : α} {xs : List α} {n : Nat} {a : α} : (x :: xs).set (n + 1) a = x :: xs.set n a := List.set_cons_succ
private abbrev zb (n m : Nat) : Array Bool := (List.replicate n true ++ List.replicate m false).toArray
set_option linter.unusedVariables false
set_option linter.unusedSimpArgs false

/-! ### masklaw4_TimingChecks: function 3 -/
def masklaw4_TimingChecks.f (k : Nat) (l0_0 : List ByteArray) (l0_1 : List ByteArray) (l0_2 : List (S58)) (l0_3 : List (S72)) (l0_4 : List Int) (l0_5 : List (S94)) (l0_6 : List (List (S53))) (l0_7 : List (List (S53))) (l0_8 : List (S53)) (l0_9 : List (S53)) (l0_10 : List (S53)) (a0_11 : Int) (l0_12 : List (S78)) (l0_13 : List (S81)) (l0_14 : List (S83)) : Option (Bool) := (masklaw4_timed.f).bind fun t398 => (if t398 = true then ((timing_Check.f k l0_0 l0_1 l0_2 l0_3 l0_4 l0_5 l0_6 l0_7 l0_8 l0_9 l0_10 a0_11 l0_12 l0_13 l0_14).bind fun t399 => ((maskref4_JobFault.f k l0_0 l0_1 l0_2 l0_3 l0_4 l0_5 l0_6 l0_7 l0_8 l0_9 l0_10 a0_11 l0_12 l0_13 l0_14).bind fun t400 => (if t399 = t400 then ((timing_Starts.f l0_0 l0_1 l0_2 l0_3 l0_4).bind fun t401 => (if t401 = (wrap64 ((l0_0.length : Int) + (l0_2.length : Int))) then ((timing_Ends.f k l0_0 l0_1 l0_2 l0_3 l0_4).bind fun t402 => ((maskref4_EndsOf.f k l0_0 l0_1 l0_2 l0_3 l0_4).bind fun t405 => ((timing_End.f k t402 t405).bind fun t408 => (some t408)))) else (some false))) else (some false)))) else (some false))
theorem masklaw4_TimingChecks.mono : ∀ a0 a1 a2 a3 a4 a5 a6 a7 a8 a9 a10 a11 a12 a13 a14 k, LeO (masklaw4_TimingChecks.f k a0 a1 a2 a3 a4 a5 a6 a7 a8 a9 a10 a11 a12 a13 a14) (masklaw4_TimingChecks.f (k + 1) a0 a1 a2 a3 a4 a5 a6 a7 a8 a9 a10 a11 a12 a13 a14) := by
 intro a0 a1 a2 a3 a4 a5 a6 a7 a8 a9 a10 a11 a12 a13 a14 k
 unfold masklaw4_TimingChecks.f
 repeat' first
  | (with_reducible exact maskref4_EndsOf.mono _ _ _ _ _ _)
  | (with_reducible exact maskref4_JobFault.mono _ _ _ _ _ _ _ _ _ _ _ _ _ _ _ _)
  | (with_reducible exact timing_Check.mono _ _ _ _ _ _ _ _ _ _ _ _ _ _ _ _)
  | (with_reducible exact timing_End.mono _ _ _)
  | (with_reducible exact timing_Ends.mono _ _ _ _ _ _)
  | (with_reducible exact LeO.refl _)
  | (with_reducible exact LeO.none _)
  | (with_reducible refine LeO.ite ?_ ?_)
  | (with_reducible refine LeO.bind ?_ (fun _ => ?_))
  | exact maskref4_EndsOf.mono _ _ _ _ _ _
  | exact maskref4_JobFault.mono _ _ _ _ _ _ _ _ _ _ _ _ _ _ _ _
  | exact timing_Check.mono _ _ _ _ _ _ _ _ _ _ _ _ _ _ _ _
  | exact timing_End.mono _ _ _
  | exact timing_Ends.mono _ _ _ _ _ _
  | exact LeO.none _
  | refine LeO.ite ?_ ?_
  | refine LeO.bind ?_ (fun _ => ?_)
def masklaw4_TimingChecks.T1 : Bool × List (List Nat × List Nat) := (true, [([], []), ([0, 0], [0]), ([1], [1]), ([2, 1, 1], [1, 2]), ([1], [1]), ([4, 3, 1], [1, 4]), ([3, 5, 1], [1, 3, 5]), ([1, 6], [1, 6]), ([7, 5], [7]), ([8], [8]), ([9, 8], [8, 9]), ([10, 8, 8], [8, 10]), ([8], [8]), ([12, 8], [8, 12]), ([13, 8], [8, 13]), ([14, 8], [8, 14]), ([8], [8]), ([16, 8], [8, 16]), ([17, 8], [8, 17]), ([18, 8], [8, 18]), ([15, 19, 8], [8, 15, 19]), ([11, 20, 8], [8, 11, 20]), ([8, 21], [8, 21]), ([22, 11], [22]), ([23], [23]), ([24, 23], [23, 24]), ([25, 23, 23], [23, 25]), ([23], [23]), ([27, 23], [23, 27]), ([28, 26, 23], [23, 28]), ([26, 29, 29, 23], [23, 26, 29]), ([23, 30], [23, 30]), ([31, 30, 0, 1, 2, 3, 4, 5, 6, 7, 8, 9, 10, 11, 12, 13, 14, 15, 16, 17, 18, 19, 20, 21, 22, 23, 24, 25, 26, 27, 28, 29, 30, 31], [31])])
def masklaw4_TimingChecks.B1 : List Nat := [0, 1, 3, 7, 3, 31, 63, 127, 255, 511, 1023, 2047, 511, 4607, 12799, 29183, 511, 66047, 197119, 459263, 1044991, 2097151, 4194303, 8388607, 16777215, 33554431, 67108863, 16777215, 150994943, 536870911, 1073741823, 2147483647, 4294967295]
theorem masklaw4_TimingChecks.tab1 : rtab .any (opsOf Tryd.f3 1) = masklaw4_TimingChecks.T1 := by kernel_rfl
theorem masklaw4_TimingChecks.bits1 : waitsOk masklaw4_TimingChecks.T1.2 masklaw4_TimingChecks.B1 = true := by kernel_rfl
set_option maxHeartbeats 8000000 in
set_option maxRecDepth 100000 in
theorem masklaw4_TimingChecks.calls (k : Nat) (A0_0 : Option Addr) (c0_0 : Nat) (l0_0 : List ByteArray) (A0_1 : Option Addr) (c0_1 : Nat) (l0_1 : List ByteArray) (A0_2 : Option Addr) (c0_2 : Nat) (l0_2 : List (S58)) (A0_3 : Option Addr) (c0_3 : Nat) (l0_3 : List (S72)) (A0_4 : Option Addr) (c0_4 : Nat) (l0_4 : List Int) (A0_5 : Option Addr) (c0_5 : Nat) (l0_5 : List (S94)) (A0_6 : Option Addr) (c0_6 : Nat) (l0_6 : List (List (S53))) (A0_7 : Option Addr) (c0_7 : Nat) (l0_7 : List (List (S53))) (A0_8 : Option Addr) (c0_8 : Nat) (l0_8 : List (S53)) (A0_9 : Option Addr) (c0_9 : Nat) (l0_9 : List (S53)) (A0_10 : Option Addr) (c0_10 : Nat) (l0_10 : List (S53)) (a0_11 : Int) (A0_12 : Option Addr) (c0_12 : Nat) (l0_12 : List (S78)) (A0_13 : Option Addr) (c0_13 : Nat) (l0_13 : List (S81)) (A0_14 : Option Addr) (c0_14 : Nat) (l0_14 : List (S83)) (r : Bool) (w : World) (hr0_0 : Kd.C Kd.string w A0_0 l0_0.length l0_0) (hc0_0 : l0_0.length ≤ c0_0) (hr0_1 : Kd.C Kd.string w A0_1 l0_1.length l0_1) (hc0_1 : l0_1.length ≤ c0_1) (hr0_2 : Kd.C k58 w A0_2 l0_2.length l0_2) (hc0_2 : l0_2.length ≤ c0_2) (hr0_3 : Kd.C k72 w A0_3 l0_3.length l0_3) (hc0_3 : l0_3.length ≤ c0_3) (hr0_4 : Kd.C (Kd.int .i64) w A0_4 l0_4.length l0_4) (hc0_4 : l0_4.length ≤ c0_4) (hr0_5 : Kd.C k94 w A0_5 l0_5.length l0_5) (hc0_5 : l0_5.length ≤ c0_5) (hr0_6 : Kd.C (Kd.slice 53 k53) w A0_6 l0_6.length l0_6) (hc0_6 : l0_6.length ≤ c0_6) (hr0_7 : Kd.C (Kd.slice 53 k53) w A0_7 l0_7.length l0_7) (hc0_7 : l0_7.length ≤ c0_7) (hr0_8 : Kd.C k53 w A0_8 l0_8.length l0_8) (hc0_8 : l0_8.length ≤ c0_8) (hr0_9 : Kd.C k53 w A0_9 l0_9.length l0_9) (hc0_9 : l0_9.length ≤ c0_9) (hr0_10 : Kd.C k53 w A0_10 l0_10.length l0_10) (hc0_10 : l0_10.length ≤ c0_10) (hr0_12 : Kd.C k78 w A0_12 l0_12.length l0_12) (hc0_12 : l0_12.length ≤ c0_12) (hr0_13 : Kd.C k81 w A0_13 l0_13.length l0_13) (hc0_13 : l0_13.length ≤ c0_13) (hr0_14 : Kd.C k83 w A0_14 l0_14.length l0_14) (hc0_14 : l0_14.length ≤ c0_14) (h : masklaw4_TimingChecks.f k l0_0 l0_1 l0_2 l0_3 l0_4 l0_5 l0_6 l0_7 l0_8 l0_9 l0_10 a0_11 l0_12 l0_13 l0_14 = some r) (hT : TabS w a0_11 l0_12 l0_13 l0_14) :
 Calls Tryd.prog 3 #[.agg #[.slice A0_0 l0_0.length c0_0, .slice A0_1 l0_1.length c0_1, .slice A0_2 l0_2.length c0_2, .slice A0_3 l0_3.length c0_3, .slice A0_4 l0_4.length c0_4, .slice A0_5 l0_5.length c0_5, .slice A0_6 l0_6.length c0_6, .slice A0_7 l0_7.length c0_7, .slice A0_8 l0_8.length c0_8, .slice A0_9 l0_9.length c0_9, .slice A0_10 l0_10.length c0_10, .int .i64 a0_11, .slice A0_12 l0_12.length c0_12, .slice A0_13 l0_13.length c0_13, .slice A0_14 l0_14.length c0_14]] w fun e w' => e = .returned (.bool r) ∧ Below w.heap.size w w' := by
 have HTA := Aside0.mk (TabS_on hT)
 clear hT
 have hu39 := Tryd.underlying39
 have hu27 := Tryd.underlying27
 have HR0_0 := Aside0.mk hr0_0
 have HC0_0 := Aside0.mk hc0_0
 clear hr0_0 hc0_0
 have HR0_1 := Aside0.mk hr0_1
 have HC0_1 := Aside0.mk hc0_1
 clear hr0_1 hc0_1
 have HR0_2 := Aside0.mk hr0_2
 have HC0_2 := Aside0.mk hc0_2
 clear hr0_2 hc0_2
 have HR0_3 := Aside0.mk hr0_3
 have HC0_3 := Aside0.mk hc0_3
 clear hr0_3 hc0_3
 have HR0_4 := Aside0.mk hr0_4
 have HC0_4 := Aside0.mk hc0_4
 clear hr0_4 hc0_4
 have HR0_5 := Aside0.mk hr0_5
 have HC0_5 := Aside0.mk hc0_5
 clear hr0_5 hc0_5
 have HR0_6 := Aside0.mk hr0_6
 have HC0_6 := Aside0.mk hc0_6
 clear hr0_6 hc0_6
 have HR0_7 := Aside0.mk hr0_7
 have HC0_7 := Aside0.mk hc0_7
 clear hr0_7 hc0_7
 have HR0_8 := Aside0.mk hr0_8
 have HC0_8 := Aside0.mk hc0_8
 clear hr0_8 hc0_8
 have HR0_9 := Aside0.mk hr0_9
 have HC0_9 := Aside0.mk hc0_9
 clear hr0_9 hc0_9
 have HR0_10 := Aside0.mk hr0_10
 have HC0_10 := Aside0.mk hc0_10
 clear hr0_10 hc0_10
 have HR0_12 := Aside0.mk hr0_12
 have HC0_12 := Aside0.mk hc0_12
 clear hr0_12 hc0_12
 have HR0_13 := Aside0.mk hr0_13
 have HC0_13 := Aside0.mk hc0_13
 clear hr0_13 hc0_13
 have HR0_14 := Aside0.mk hr0_14
 have HC0_14 := Aside0.mk hc0_14
 clear hr0_14 hc0_14
 have HB := Aside0.mk (Below.refl w.heap.size w)
 have H : ((masklaw4_timed.f).bind fun t398 => (if t398 = true then ((timing_Check.f k l0_0 l0_1 l0_2 l0_3 l0_4 l0_5 l0_6 l0_7 l0_8 l0_9 l0_10 a0_11 l0_12 l0_13 l0_14).bind fun t399 => ((maskref4_JobFault.f k l0_0 l0_1 l0_2 l0_3 l0_4 l0_5 l0_6 l0_7 l0_8 l0_9 l0_10 a0_11 l0_12 l0_13 l0_14).bind fun t400 => (if t399 = t400 then ((timing_Starts.f l0_0 l0_1 l0_2 l0_3 l0_4).bind fun t401 => (if t401 = (wrap64 ((l0_0.length : Int) + (l0_2.length : Int))) then ((timing_Ends.f k l0_0 l0_1 l0_2 l0_3 l0_4).bind fun t402 => ((maskref4_EndsOf.f k l0_0 l0_1 l0_2 l0_3 l0_4).bind fun t405 => ((timing_End.f k t402 t405).bind fun t408 => (some t408)))) else (some false))) else (some false)))) else (some false))) = some r := h
 clear h
 replace H := Option.bind_eq_some_iff.mp H
 obtain ⟨t398, A20, H⟩ := H
 replace H : (if t398 = true then ((timing_Check.f k l0_0 l0_1 l0_2 l0_3 l0_4 l0_5 l0_6 l0_7 l0_8 l0_9 l0_10 a0_11 l0_12 l0_13 l0_14).bind fun t399 => ((maskref4_JobFault.f k l0_0 l0_1 l0_2 l0_3 l0_4 l0_5 l0_6 l0_7 l0_8 l0_9 l0_10 a0_11 l0_12 l0_13 l0_14).bind fun t400 => (if t399 = t400 then ((timing_Starts.f l0_0 l0_1 l0_2 l0_3 l0_4).bind fun t401 => (if t401 = (wrap64 ((l0_0.length : Int) + (l0_2.length : Int))) then ((timing_Ends.f k l0_0 l0_1 l0_2 l0_3 l0_4).bind fun t402 => ((maskref4_EndsOf.f k l0_0 l0_1 l0_2 l0_3 l0_4).bind fun t405 => ((timing_End.f k t402 t405).bind fun t408 => (some t408)))) else (some false))) else (some false)))) else (some false)) = some r := H
 have A2 := Aside0.mk A20
 clear A20
 by_cases c3 : t398 = true
 · subst c3
   have H1 : ((timing_Check.f k l0_0 l0_1 l0_2 l0_3 l0_4 l0_5 l0_6 l0_7 l0_8 l0_9 l0_10 a0_11 l0_12 l0_13 l0_14).bind fun t399 => ((maskref4_JobFault.f k l0_0 l0_1 l0_2 l0_3 l0_4 l0_5 l0_6 l0_7 l0_8 l0_9 l0_10 a0_11 l0_12 l0_13 l0_14).bind fun t400 => (if t399 = t400 then ((timing_Starts.f l0_0 l0_1 l0_2 l0_3 l0_4).bind fun t401 => (if t401 = (wrap64 ((l0_0.length : Int) + (l0_2.length : Int))) then ((timing_Ends.f k l0_0 l0_1 l0_2 l0_3 l0_4).bind fun t402 => ((maskref4_EndsOf.f k l0_0 l0_1 l0_2 l0_3 l0_4).bind fun t405 => ((timing_End.f k t402 t405).bind fun t408 => (some t408)))) else (some false))) else (some false)))) = some r := by rw [if_pos rfl] at H; exact H
   clear H
   have H := H1
   clear H1
   replace H := Option.bind_eq_some_iff.mp H
   obtain ⟨t399, A40, H⟩ := H
   replace H : ((maskref4_JobFault.f k l0_0 l0_1 l0_2 l0_3 l0_4 l0_5 l0_6 l0_7 l0_8 l0_9 l0_10 a0_11 l0_12 l0_13 l0_14).bind fun t400 => (if t399 = t400 then ((timing_Starts.f l0_0 l0_1 l0_2 l0_3 l0_4).bind fun t401 => (if t401 = (wrap64 ((l0_0.length : Int) + (l0_2.length : Int))) then ((timing_Ends.f k l0_0 l0_1 l0_2 l0_3 l0_4).bind fun t402 => ((maskref4_EndsOf.f k l0_0 l0_1 l0_2 l0_3 l0_4).bind fun t405 => ((timing_End.f k t402 t405).bind fun t408 => (some t408)))) else (some false))) else (some false))) = some r := H
   have A4 := Aside0.mk A40
   clear A40
   replace H := Option.bind_eq_some_iff.mp H
   obtain ⟨t400, A50, H⟩ := H
   replace H : (if t399 = t400 then ((timing_Starts.f l0_0 l0_1 l0_2 l0_3 l0_4).bind fun t401 => (if t401 = (wrap64 ((l0_0.length : Int) + (l0_2.length : Int))) then ((timing_Ends.f k l0_0 l0_1 l0_2 l0_3 l0_4).bind fun t402 => ((maskref4_EndsOf.f k l0_0 l0_1 l0_2 l0_3 l0_4).bind fun t405 => ((timing_End.f k t402 t405).bind fun t408 => (some t408)))) else (some false))) else (some false)) = some r := H
   have A5 := Aside0.mk A50
   clear A50
   by_cases c6 : t399 = t400
   · rw [if_pos c6] at H
     have c6b0 : (t399 == t400) = true := beq_iff_eq.mpr c6
     have c6b1 : (t399 != t400) = false := bne_eq_false_iff_eq.mpr c6
     clear c6
     replace H := Option.bind_eq_some_iff.mp H
     obtain ⟨t401, A70, H⟩ := H
     replace H : (if t401 = (wrap64 ((l0_0.length : Int) + (l0_2.length : Int))) then ((timing_Ends.f k l0_0 l0_1 l0_2 l0_3 l0_4).bind fun t402 => ((maskref4_EndsOf.f k l0_0 l0_1 l0_2 l0_3 l0_4).bind fun t405 => ((timing_End.f k t402 t405).bind fun t408 => (some t408)))) else (some false)) = some r := H
     have A7 := Aside0.mk A70
     clear A70
     by_cases c8 : t401 = (wrap64 ((l0_0.length : Int) + (l0_2.length : Int)))
     · rw [if_pos c8] at H
       have c8b0 : (t401 == (wrap64 ((l0_0.length : Int) + (l0_2.length : Int)))) = true := beq_iff_eq.mpr c8
       have c8b1 : (t401 != (wrap64 ((l0_0.length : Int) + (l0_2.length : Int)))) = false := bne_eq_false_iff_eq.mpr c8
       clear c8
       replace H := Option.bind_eq_some_iff.mp H
       obtain ⟨t402, A90, H⟩ := H
       replace H : ((maskref4_EndsOf.f k l0_0 l0_1 l0_2 l0_3 l0_4).bind fun t405 => ((timing_End.f k t402 t405).bind fun t408 => (some t408))) = some r := H
       have A9 := Aside0.mk A90
       clear A90
       replace H := Option.bind_eq_some_iff.mp H
       obtain ⟨t405, A100, H⟩ := H
       replace H : ((timing_End.f k t402 t405).bind fun t408 => (some t408)) = some r := H
       have A10 := Aside0.mk A100
       clear A100
       replace H := Option.bind_eq_some_iff.mp H
       obtain ⟨t408, A110, H⟩ := H
       replace H : (some t408) = some r := H
       have A11 := Aside0.mk A110
       clear A110
       obtain rfl := Option.some.inj H
       go_enter Tryd.func3, Tryd.ntmps3
       try go_wp2_with ((with_reducible refine gate_dst (N := 1) rfl ?_); (try (refine gate_guard (by rfl) ?_; dsimp only)); refine box_event ?hg (N := 1) ?hd (cs := #[.slice A0_0 l0_0.length c0_0, .slice A0_1 l0_1.length c0_1, .slice A0_2 l0_2.length c0_2, .slice A0_3 l0_3.length c0_3, .slice A0_4 l0_4.length c0_4, .slice A0_5 l0_5.length c0_5, .slice A0_6 l0_6.length c0_6, .slice A0_7 l0_7.length c0_7, .slice A0_8 l0_8.length c0_8, .slice A0_9 l0_9.length c0_9, .slice A0_10 l0_10.length c0_10, .int .i64 a0_11, .slice A0_12 l0_12.length c0_12, .slice A0_13 l0_13.length c0_13, .slice A0_14 l0_14.length c0_14]) (t := 39) ?hr ?_; (case hd => rfl); (case hg => rfl); (case hr => first | (go_simp; done) | (go_simp; rfl)); intro gb397 hg w12 hbox hb; have BK397 := Aside0.mk (hbox); have GW397 := Aside0.mk (ge (w := w) hg); have GE397 := Aside0.mk (ge (w := w) hg); replace HB := Aside0.mk (below_step bl hb); clear hb hbox hg)
       have n0_ := Aside0.mk (blk_drew BK397.out)
       have n1_ := Aside0.mk (below_drew1 HB.out)
       clear BK397
       clear HB
       have BK397 := n0_
       have HB := n1_
       clear n0_ n1_
       refine start_ (n := 33) (S := fun w' => w'.cell? ⟨gb397, 0, none⟩ = some (.slice A0_0 l0_0.length c0_0) ∧ w'.cell? ⟨gb397, 1, none⟩ = some (.slice A0_1 l0_1.length c0_1) ∧ w'.cell? ⟨gb397, 2, none⟩ = some (.slice A0_2 l0_2.length c0_2) ∧ w'.cell? ⟨gb397, 3, none⟩ = some (.slice A0_3 l0_3.length c0_3) ∧ w'.cell? ⟨gb397, 4, none⟩ = some (.slice A0_4 l0_4.length c0_4) ∧ w'.cell? ⟨gb397, 5, none⟩ = some (.slice A0_5 l0_5.length c0_5) ∧ w'.cell? ⟨gb397, 6, none⟩ = some (.slice A0_6 l0_6.length c0_6) ∧ w'.cell? ⟨gb397, 7, none⟩ = some (.slice A0_7 l0_7.length c0_7) ∧ w'.cell? ⟨gb397, 8, none⟩ = some (.slice A0_8 l0_8.length c0_8) ∧ w'.cell? ⟨gb397, 9, none⟩ = some (.slice A0_9 l0_9.length c0_9) ∧ w'.cell? ⟨gb397, 10, none⟩ = some (.slice A0_10 l0_10.length c0_10) ∧ w'.cell? ⟨gb397, 11, none⟩ = some (.int .i64 a0_11) ∧ w'.cell? ⟨gb397, 12, none⟩ = some (.slice A0_12 l0_12.length c0_12) ∧ w'.cell? ⟨gb397, 13, none⟩ = some (.slice A0_13 l0_13.length c0_13) ∧ w'.cell? ⟨gb397, 14, none⟩ = some (.slice A0_14 l0_14.length c0_14)) (ds := []) (zb 0 33) (by kernel_rfl) rfl rfl ⟨(blk_cell BK397.out 0).trans rfl, (blk_cell BK397.out 1).trans rfl, (blk_cell BK397.out 2).trans rfl, (blk_cell BK397.out 3).trans rfl, (blk_cell BK397.out 4).trans rfl, (blk_cell BK397.out 5).trans rfl, (blk_cell BK397.out 6).trans rfl, (blk_cell BK397.out 7).trans rfl, (blk_cell BK397.out 8).trans rfl, (blk_cell BK397.out 9).trans rfl, (blk_cell BK397.out 10).trans rfl, (blk_cell BK397.out 11).trans rfl, (blk_cell BK397.out 12).trans rfl, (blk_cell BK397.out 13).trans rfl, (blk_cell BK397.out 14).trans rfl⟩ (fun hHeld => ?_); refine with_tabW masklaw4_TimingChecks.tab1 masklaw4_TimingChecks.bits1 (fun HT_ HW_ => ?_)
       generalize w12.drew = w13 at BK397 HB hHeld ⊢
       refine one_ (i := 0) (N := some 3) (zb 1 32) rfl rfl (one_of HT_.out (by kernel_rfl)) (by decide) (fun K hK => ?_)
       refine goes_ Tryd.func4 (by kernel_rfl) rfl #[] (by rfl) rfl rfl (by (try simp only [List.map_toArray, List.map_cons, List.map_nil]); first | done | rfl | (simp only [List.length_drop, List.length_take]; rfl)) ?_
       with_reducible refine (masklaw4_timed.calls  true _ A2.out).mono ?_
       rintro e w14 ⟨rfl, hb⟩
       refine ⟨_, rfl, ?_⟩
       have n0_ := Aside0.mk (bb BK397.out hb)
       have n1_ := Aside0.mk (below_step bl hb)
       clear BK397
       clear HB
       have BK397 := n0_
       have HB := n1_
       clear n0_ n1_
       (try clear hb)
       (try clear hb2)
       (try clear hk)
       (try clear hi)
       refine hK.out _ _ ⟨(blk_cell BK397.out 0).trans rfl, (blk_cell BK397.out 1).trans rfl, (blk_cell BK397.out 2).trans rfl, (blk_cell BK397.out 3).trans rfl, (blk_cell BK397.out 4).trans rfl, (blk_cell BK397.out 5).trans rfl, (blk_cell BK397.out 6).trans rfl, (blk_cell BK397.out 7).trans rfl, (blk_cell BK397.out 8).trans rfl, (blk_cell BK397.out 9).trans rfl, (blk_cell BK397.out 10).trans rfl, (blk_cell BK397.out 11).trans rfl, (blk_cell BK397.out 12).trans rfl, (blk_cell BK397.out 13).trans rfl, (blk_cell BK397.out 14).trans rfl⟩ (fun hHeld => ?_)
       clear hK K
       refine norm_ (a' := ?_) ?_ ?_
       rotate_left; focus (show Act.put _ (some 3) _ = _; simp only [Act.put, z1, z2, z3, i64_w, i32_w]; rfl)
       refine pure_ (i := 1) (N := some 4) (v := ?_) (a' := ?_) (zb 2 31) rfl rfl (any_of HT_.out (by kernel_rfl)) (fun _ _ _ h => h) (Or.inl ⟨by rfl, ?_⟩) ?_ ?_
       rotate_left; focus (intro w'; go_simp; with_reducible rfl)
       rotate_left; focus (simp only [Act.put, z1, z2, z3, i64_w, i32_w]; rfl)
       refine take_ (i := 2) (N := some 5) (v := ?_) (a' := ?_) (zb 3 30) rfl rfl (take_ofW HT_.out HW_.out (by kernel_rfl)) (fun _ _ _ h => h) (Or.inl ⟨by rfl, ?_⟩) hHeld ?_ ?_
       rotate_left
       · rintro w' ⟨s0, s1, s2, s3, s4, s5, s6, s7, s8, s9, s10, s11, s12, s13, s14⟩
         go_simp
         with_reducible rfl
       rotate_left; focus (simp only [Act.put, z1, z2, z3, i64_w, i32_w]; rfl)
       refine take_ (i := 4) (N := some 7) (v := ?_) (a' := ?_) #[true,true,true,false,true,false,false,false,false,false,false,false,false,false,false,false,false,false,false,false,false,false,false,false,false,false,false,false,false,false,false,false,false] rfl rfl (take_ofW HT_.out HW_.out (by kernel_rfl)) (fun _ _ _ h => h) (Or.inl ⟨by rfl, ?_⟩) hHeld ?_ ?_
       rotate_left
       · rintro w' ⟨s0, s1, s2, s3, s4, s5, s6, s7, s8, s9, s10, s11, s12, s13, s14⟩
         go_simp
         with_reducible rfl
       rotate_left; focus (simp only [Act.put, z1, z2, z3, i64_w, i32_w]; rfl)
       refine one_ (i := 3) (N := some 6) (zb 5 28) rfl rfl (one_of HT_.out (by kernel_rfl)) (by decide) (fun K hK => ?_)
       refine goes_ Tryd.func5 (by kernel_rfl) rfl #[.agg #[.slice A0_0 l0_0.length c0_0, .slice A0_1 l0_1.length c0_1, .slice A0_2 l0_2.length c0_2, .slice A0_3 l0_3.length c0_3, .slice A0_4 l0_4.length c0_4, .slice A0_5 l0_5.length c0_5, .slice A0_6 l0_6.length c0_6, .slice A0_7 l0_7.length c0_7, .slice A0_8 l0_8.length c0_8, .slice A0_9 l0_9.length c0_9, .slice A0_10 l0_10.length c0_10, .int .i64 a0_11, .slice A0_12 l0_12.length c0_12, .slice A0_13 l0_13.length c0_13, .slice A0_14 l0_14.length c0_14]] (by rfl) rfl rfl (by (try simp only [List.map_toArray, List.map_cons, List.map_nil]); first | done | rfl | (simp only [List.length_drop, List.length_take]; rfl)) ?_
       with_reducible refine (timing_Check.calls k _ _ l0_0 _ _ l0_1 _ _ l0_2 _ _ l0_3 _ _ l0_4 _ _ l0_5 _ _ l0_6 _ _ l0_7 _ _ l0_8 _ _ l0_9 _ _ l0_10 a0_11 _ _ l0_12 _ _ l0_13 _ _ l0_14 t399 _ ?side1 ?side2 ?side3 ?side4 ?side5 ?side6 ?side7 ?side8 ?side9 ?side10 ?side11 ?side12 ?side13 ?side14 ?side15 ?side16 ?side17 ?side18 ?side19 ?side20 ?side21 ?side22 ?side23 ?side24 ?side25 ?side26 ?side27 ?side28 A4.out ?sideT).mono ?_
       (case sideT => exact HTA.out _ (by repeat (first | exact HB.out | (with_reducible refine below_alloc ?_ _) | (with_reducible refine pw_below_drewN ?_ _) | (with_reducible refine below_drew1 ?_))))
       (case side1 => exact kc (Kd.C_below HR0_0.out HB.out))
       (case side2 => exact HC0_0.out)
       (case side3 => exact kc (Kd.C_below HR0_1.out HB.out))
       (case side4 => exact HC0_1.out)
       (case side5 => exact kc (Kd.C_below HR0_2.out HB.out))
       (case side6 => exact HC0_2.out)
       (case side7 => exact kc (Kd.C_below HR0_3.out HB.out))
       (case side8 => exact HC0_3.out)
       (case side9 => exact kc (Kd.C_below HR0_4.out HB.out))
       (case side10 => exact HC0_4.out)
       (case side11 => exact kc (Kd.C_below HR0_5.out HB.out))
       (case side12 => exact HC0_5.out)
       (case side13 => exact kc (Kd.C_below HR0_6.out HB.out))
       (case side14 => exact HC0_6.out)
       (case side15 => exact kc (Kd.C_below HR0_7.out HB.out))
       (case side16 => exact HC0_7.out)
       (case side17 => exact kc (Kd.C_below HR0_8.out HB.out))
       (case side18 => exact HC0_8.out)
       (case side19 => exact kc (Kd.C_below HR0_9.out HB.out))
       (case side20 => exact HC0_9.out)
       (case side21 => exact kc (Kd.C_below HR0_10.out HB.out))
       (case side22 => exact HC0_10.out)
       (case side23 => exact kc (Kd.C_below HR0_12.out HB.out))
       (case side24 => exact HC0_12.out)
       (case side25 => exact kc (Kd.C_below HR0_13.out HB.out))
       (case side26 => exact HC0_13.out)
       (case side27 => exact kc (Kd.C_below HR0_14.out HB.out))
       (case side28 => exact HC0_14.out)
       rintro e w15 ⟨rfl, hb⟩
       refine ⟨_, rfl, ?_⟩
       have n0_ := Aside0.mk (bb BK397.out hb)
       have n1_ := Aside0.mk (below_step bl hb)
       clear BK397
       clear HB
       have BK397 := n0_
       have HB := n1_
       clear n0_ n1_
       (try clear hb)
       (try clear hb2)
       (try clear hk)
       (try clear hi)
       refine hK.out _ _ ⟨(blk_cell BK397.out 0).trans rfl, (blk_cell BK397.out 1).trans rfl, (blk_cell BK397.out 2).trans rfl, (blk_cell BK397.out 3).trans rfl, (blk_cell BK397.out 4).trans rfl, (blk_cell BK397.out 5).trans rfl, (blk_cell BK397.out 6).trans rfl, (blk_cell BK397.out 7).trans rfl, (blk_cell BK397.out 8).trans rfl, (blk_cell BK397.out 9).trans rfl, (blk_cell BK397.out 10).trans rfl, (blk_cell BK397.out 11).trans rfl, (blk_cell BK397.out 12).trans rfl, (blk_cell BK397.out 13).trans rfl, (blk_cell BK397.out 14).trans rfl⟩ (fun hHeld => ?_)
       clear hK K
       refine norm_ (a' := ?_) ?_ ?_
       rotate_left; focus (show Act.put _ (some 6) _ = _; simp only [Act.put, z1, z2, z3, i64_w, i32_w]; rfl)
       refine one_ (i := 5) (N := some 8) (zb 6 27) rfl rfl (one_of HT_.out (by kernel_rfl)) (by decide) (fun K hK => ?_)
       refine goes_ Tryd.func6 (by kernel_rfl) rfl #[.agg #[.slice A0_0 l0_0.length c0_0, .slice A0_1 l0_1.length c0_1, .slice A0_2 l0_2.length c0_2, .slice A0_3 l0_3.length c0_3, .slice A0_4 l0_4.length c0_4, .slice A0_5 l0_5.length c0_5, .slice A0_6 l0_6.length c0_6, .slice A0_7 l0_7.length c0_7, .slice A0_8 l0_8.length c0_8, .slice A0_9 l0_9.length c0_9, .slice A0_10 l0_10.length c0_10, .int .i64 a0_11, .slice A0_12 l0_12.length c0_12, .slice A0_13 l0_13.length c0_13, .slice A0_14 l0_14.length c0_14]] (by rfl) rfl rfl (by (try simp only [List.map_toArray, List.map_cons, List.map_nil]); first | done | rfl | (simp only [List.length_drop, List.length_take]; rfl)) ?_
       with_reducible refine (maskref4_JobFault.calls k _ _ l0_0 _ _ l0_1 _ _ l0_2 _ _ l0_3 _ _ l0_4 _ _ l0_5 _ _ l0_6 _ _ l0_7 _ _ l0_8 _ _ l0_9 _ _ l0_10 a0_11 _ _ l0_12 _ _ l0_13 _ _ l0_14 t400 _ ?side1 ?side2 ?side3 ?side4 ?side5 ?side6 ?side7 ?side8 ?side9 ?side10 ?side11 ?side12 ?side13 ?side14 ?side15 ?side16 ?side17 ?side18 ?side19 ?side20 ?side21 ?side22 ?side23 ?side24 ?side25 ?side26 ?side27 ?side28 A5.out).mono ?_
       (case side1 => exact kc (Kd.C_below HR0_0.out HB.out))
       (case side2 => exact HC0_0.out)
       (case side3 => exact kc (Kd.C_below HR0_1.out HB.out))
       (case side4 => exact HC0_1.out)
       (case side5 => exact kc (Kd.C_below HR0_2.out HB.out))
       (case side6 => exact HC0_2.out)
       (case side7 => exact kc (Kd.C_below HR0_3.out HB.out))
       (case side8 => exact HC0_3.out)
       (case side9 => exact kc (Kd.C_below HR0_4.out HB.out))
       (case side10 => exact HC0_4.out)
       (case side11 => exact kc (Kd.C_below HR0_5.out HB.out))
       (case side12 => exact HC0_5.out)
       (case side13 => exact kc (Kd.C_below HR0_6.out HB.out))
       (case side14 => exact HC0_6.out)
       (case side15 => exact kc (Kd.C_below HR0_7.out HB.out))
       (case side16 => exact HC0_7.out)
       (case side17 => exact kc (Kd.C_below HR0_8.out HB.out))
       (case side18 => exact HC0_8.out)
       (case side19 => exact kc (Kd.C_below HR0_9.out HB.out))
       (case side20 => exact HC0_9.out)
       (case side21 => exact kc (Kd.C_below HR0_10.out HB.out))
       (case side22 => exact HC0_10.out)
       (case side23 => exact kc (Kd.C_below HR0_12.out HB.out))
       (case side24 => exact HC0_12.out)
       (case side25 => exact kc (Kd.C_below HR0_13.out HB.out))
       (case side26 => exact HC0_13.out)
       (case side27 => exact kc (Kd.C_below HR0_14.out HB.out))
       (case side28 => exact HC0_14.out)
       rintro e w16 ⟨rfl, hb⟩
       refine ⟨_, rfl, ?_⟩
       have n0_ := Aside0.mk (bb BK397.out hb)
       have n1_ := Aside0.mk (below_step bl hb)
       clear BK397
       clear HB
       have BK397 := n0_
       have HB := n1_
       clear n0_ n1_
       (try clear hb)
       (try clear hb2)
       (try clear hk)
       (try clear hi)
       refine hK.out _ _ ⟨(blk_cell BK397.out 0).trans rfl, (blk_cell BK397.out 1).trans rfl, (blk_cell BK397.out 2).trans rfl, (blk_cell BK397.out 3).trans rfl, (blk_cell BK397.out 4).trans rfl, (blk_cell BK397.out 5).trans rfl, (blk_cell BK397.out 6).trans rfl, (blk_cell BK397.out 7).trans rfl, (blk_cell BK397.out 8).trans rfl, (blk_cell BK397.out 9).trans rfl, (blk_cell BK397.out 10).trans rfl, (blk_cell BK397.out 11).trans rfl, (blk_cell BK397.out 12).trans rfl, (blk_cell BK397.out 13).trans rfl, (blk_cell BK397.out 14).trans rfl⟩ (fun hHeld => ?_)
       clear hK K
       refine norm_ (a' := ?_) ?_ ?_
       rotate_left; focus (show Act.put _ (some 8) _ = _; simp only [Act.put, z1, z2, z3, i64_w, i32_w]; rfl)
       refine pure_ (i := 6) (N := some 9) (v := ?_) (a' := ?_) (zb 7 26) rfl rfl (any_of HT_.out (by kernel_rfl)) (fun _ _ _ h => h) (Or.inl ⟨by rfl, ?_⟩) ?_ ?_
       rotate_left; focus (intro w'; go_simp; with_reducible rfl)
       rotate_left; focus (simp only [Act.put, z1, z2, z3, i64_w, i32_w]; rfl)
       refine pure_ (i := 7) (N := some 10) (v := ?_) (a' := ?_) (zb 8 25) rfl rfl (any_of HT_.out (by kernel_rfl)) (fun _ _ _ h => h) (Or.inl ⟨by rfl, ?_⟩) ?_ ?_
       rotate_left; focus (intro w'; go_simp; with_reducible rfl)
       rotate_left; focus (simp only [Act.put, z1, z2, z3, i64_w, i32_w]; rfl)
       refine pure_ (i := 8) (N := some 11) (v := ?_) (a' := ?_) (zb 9 24) rfl rfl (any_of HT_.out (by kernel_rfl)) (fun _ _ _ h => h) (Or.inl ⟨by rfl, ?_⟩) ?_ ?_
       rotate_left; focus (intro w'; go_simp; with_reducible rfl)
       rotate_left; focus (simp only [Act.put, z1, z2, z3, i64_w, i32_w]; rfl)
       refine pure_ (i := 9) (N := some 12) (v := ?_) (a' := ?_) (zb 10 23) rfl rfl (any_of HT_.out (by kernel_rfl)) (fun _ _ _ h => h) (Or.inl ⟨by rfl, ?_⟩) ?_ ?_
       rotate_left; focus (intro w'; go_simp; with_reducible rfl)
       rotate_left; focus (simp only [Act.put, z1, z2, z3, i64_w, i32_w]; rfl)
       refine pure_ (i := 12) (N := some 15) (v := ?_) (a' := ?_) #[true,true,true,true,true,true,true,true,true,true,false,false,true,false,false,false,false,false,false,false,false,false,false,false,false,false,false,false,false,false,false,false,false] rfl rfl (any_of HT_.out (by kernel_rfl)) (fun _ _ _ h => h) (Or.inl ⟨by rfl, ?_⟩) ?_ ?_
       rotate_left; focus (intro w'; go_simp; with_reducible rfl)
       rotate_left; focus (simp only [Act.put, z1, z2, z3, i64_w, i32_w]; rfl)
       refine pure_ (i := 13) (N := some 16) (v := ?_) (a' := ?_) #[true,true,true,true,true,true,true,true,true,true,false,false,true,true,false,false,false,false,false,false,false,false,false,false,false,false,false,false,false,false,false,false,false] rfl rfl (any_of HT_.out (by kernel_rfl)) (fun _ _ _ h => h) (Or.inl ⟨by rfl, ?_⟩) ?_ ?_
       rotate_left; focus (intro w'; go_simp; with_reducible rfl)
       rotate_left; focus (simp only [Act.put, z1, z2, z3, i64_w, i32_w]; rfl)
       refine pure_ (i := 16) (N := some 19) (v := ?_) (a' := ?_) #[true,true,true,true,true,true,true,true,true,true,false,false,true,true,false,false,true,false,false,false,false,false,false,false,false,false,false,false,false,false,false,false,false] rfl rfl (any_of HT_.out (by kernel_rfl)) (fun _ _ _ h => h) (Or.inl ⟨by rfl, ?_⟩) ?_ ?_
       rotate_left; focus (intro w'; go_simp; with_reducible rfl)
       rotate_left; focus (simp only [Act.put, z1, z2, z3, i64_w, i32_w]; rfl)
       refine pure_ (i := 17) (N := some 20) (v := ?_) (a' := ?_) #[true,true,true,true,true,true,true,true,true,true,false,false,true,true,false,false,true,true,false,false,false,false,false,false,false,false,false,false,false,false,false,false,false] rfl rfl (any_of HT_.out (by kernel_rfl)) (fun _ _ _ h => h) (Or.inl ⟨by rfl, ?_⟩) ?_ ?_
       rotate_left; focus (intro w'; go_simp; with_reducible rfl)
       rotate_left; focus (simp only [Act.put, z1, z2, z3, i64_w, i32_w]; rfl)
       refine take_ (i := 10) (N := some 13) (v := ?_) (a' := ?_) #[true,true,true,true,true,true,true,true,true,true,true,false,true,true,false,false,true,true,false,false,false,false,false,false,false,false,false,false,false,false,false,false,false] rfl rfl (take_ofW HT_.out HW_.out (by kernel_rfl)) (fun _ _ _ h => h) (Or.inl ⟨by rfl, ?_⟩) hHeld ?_ ?_
       rotate_left
       · rintro w' ⟨s0, s1, s2, s3, s4, s5, s6, s7, s8, s9, s10, s11, s12, s13, s14⟩
         go_simp
         with_reducible rfl
       rotate_left; focus (simp only [Act.put, z1, z2, z3, i64_w, i32_w]; rfl)
       refine take_ (i := 14) (N := some 17) (v := ?_) (a' := ?_) #[true,true,true,true,true,true,true,true,true,true,true,false,true,true,true,false,true,true,false,false,false,false,false,false,false,false,false,false,false,false,false,false,false] rfl rfl (take_ofW HT_.out HW_.out (by kernel_rfl)) (fun _ _ _ h => h) (Or.inl ⟨by rfl, ?_⟩) hHeld ?_ ?_
       rotate_left
       · rintro w' ⟨s0, s1, s2, s3, s4, s5, s6, s7, s8, s9, s10, s11, s12, s13, s14⟩
         go_simp
         with_reducible rfl
       rotate_left; focus (simp only [Act.put, z1, z2, z3, i64_w, i32_w]; rfl)
       refine pure_ (i := 15) (N := some 18) (v := ?_) (a' := ?_) #[true,true,true,true,true,true,true,true,true,true,true,false,true,true,true,true,true,true,false,false,false,false,false,false,false,false,false,false,false,false,false,false,false] rfl rfl (any_of HT_.out (by kernel_rfl)) (fun _ _ _ h => h) (Or.inl ⟨by rfl, ?_⟩) ?_ ?_
       rotate_left; focus (intro w'; go_simp; with_reducible rfl)
       rotate_left; focus (simp only [Act.put, z1, z2, z3, i64_w, i32_w]; rfl)
       refine take_ (i := 18) (N := some 21) (v := ?_) (a' := ?_) #[true,true,true,true,true,true,true,true,true,true,true,false,true,true,true,true,true,true,true,false,false,false,false,false,false,false,false,false,false,false,false,false,false] rfl rfl (take_ofW HT_.out HW_.out (by kernel_rfl)) (fun _ _ _ h => h) (Or.inl ⟨by rfl, ?_⟩) hHeld ?_ ?_
       rotate_left
       · rintro w' ⟨s0, s1, s2, s3, s4, s5, s6, s7, s8, s9, s10, s11, s12, s13, s14⟩
         go_simp
         with_reducible rfl
       rotate_left; focus (simp only [Act.put, z1, z2, z3, i64_w, i32_w]; rfl)
       refine pure_ (i := 19) (N := some 22) (v := ?_) (a' := ?_) #[true,true,true,true,true,true,true,true,true,true,true,false,true,true,true,true,true,true,true,true,false,false,false,false,false,false,false,false,false,false,false,false,false] rfl rfl (any_of HT_.out (by kernel_rfl)) (fun _ _ _ h => h) (Or.inl ⟨by rfl, ?_⟩) ?_ ?_
       rotate_left; focus (intro w'; go_simp; with_reducible rfl)
       rotate_left; focus (simp only [Act.put, z1, z2, z3, i64_w, i32_w]; rfl)
       refine pure_ (i := 20) (N := some 23) (v := ?_) (a' := ?_) #[true,true,true,true,true,true,true,true,true,true,true,false,true,true,true,true,true,true,true,true,true,false,false,false,false,false,false,false,false,false,false,false,false] rfl rfl (any_of HT_.out (by kernel_rfl)) (fun _ _ _ h => h) (Or.inl ⟨by rfl, ?_⟩) ?_ ?_
       rotate_left; focus (intro w'; go_simp; with_reducible rfl)
       rotate_left; focus (simp only [Act.put, z1, z2, z3, i64_w, i32_w]; rfl)
       refine one_ (i := 11) (N := some 14) (zb 21 12) rfl rfl (one_of HT_.out (by kernel_rfl)) (by decide) (fun K hK => ?_)
       refine goes_ Tryd.func7 (by kernel_rfl) rfl #[.agg #[.slice A0_0 l0_0.length c0_0, .slice A0_1 l0_1.length c0_1, .slice A0_2 l0_2.length c0_2, .slice A0_3 l0_3.length c0_3, .slice A0_4 l0_4.length c0_4]] (by rfl) rfl rfl (by (try simp only [List.map_toArray, List.map_cons, List.map_nil]); first | done | rfl | (simp only [List.length_drop, List.length_take]; rfl)) ?_
       with_reducible refine (timing_Starts.calls _ _ l0_0 _ _ l0_1 _ _ l0_2 _ _ l0_3 _ _ l0_4 t401 _ ?side1 ?side2 ?side3 ?side4 ?side5 ?side6 ?side7 ?side8 ?side9 ?side10 A7.out).mono ?_
       (case side1 => exact kc (Kd.C_below HR0_0.out HB.out))
       (case side2 => exact HC0_0.out)
       (case side3 => exact kc (Kd.C_below HR0_1.out HB.out))
       (case side4 => exact HC0_1.out)
       (case side5 => exact kc (Kd.C_below HR0_2.out HB.out))
       (case side6 => exact HC0_2.out)
       (case side7 => exact kc (Kd.C_below HR0_3.out HB.out))
       (case side8 => exact HC0_3.out)
       (case side9 => exact kc (Kd.C_below HR0_4.out HB.out))
       (case side10 => exact HC0_4.out)
       rintro e w17 ⟨rfl, hb⟩
       refine ⟨_, rfl, ?_⟩
       have n0_ := Aside0.mk (bb BK397.out hb)
       have n1_ := Aside0.mk (below_step bl hb)
       clear BK397
       clear HB
       have BK397 := n0_
       have HB := n1_
       clear n0_ n1_
       (try clear hb)
       (try clear hb2)
       (try clear hk)
       (try clear hi)
       refine hK.out _ _ ⟨(blk_cell BK397.out 0).trans rfl, (blk_cell BK397.out 1).trans rfl, (blk_cell BK397.out 2).trans rfl, (blk_cell BK397.out 3).trans rfl, (blk_cell BK397.out 4).trans rfl, (blk_cell BK397.out 5).trans rfl, (blk_cell BK397.out 6).trans rfl, (blk_cell BK397.out 7).trans rfl, (blk_cell BK397.out 8).trans rfl, (blk_cell BK397.out 9).trans rfl, (blk_cell BK397.out 10).trans rfl, (blk_cell BK397.out 11).trans rfl, (blk_cell BK397.out 12).trans rfl, (blk_cell BK397.out 13).trans rfl, (blk_cell BK397.out 14).trans rfl⟩ (fun hHeld => ?_)
       clear hK K
       refine norm_ (a' := ?_) ?_ ?_
       rotate_left; focus (show Act.put _ (some 14) _ = _; simp only [Act.put, z1, z2, z3, i64_w, i32_w]; rfl)
       refine pure_ (i := 21) (N := some 24) (v := ?_) (a' := ?_) (zb 22 11) rfl rfl (any_of HT_.out (by kernel_rfl)) (fun _ _ _ h => h) (Or.inl ⟨by rfl, ?_⟩) ?_ ?_
       rotate_left; focus (intro w'; go_simp; with_reducible rfl)
       rotate_left; focus (simp only [Act.put, z1, z2, z3, i64_w, i32_w]; rfl)
       refine pure_ (i := 22) (N := some 25) (v := ?_) (a' := ?_) (zb 23 10) rfl rfl (any_of HT_.out (by kernel_rfl)) (fun _ _ _ h => h) (Or.inl ⟨by rfl, ?_⟩) ?_ ?_
       rotate_left; focus (intro w'; go_simp; with_reducible rfl)
       rotate_left; focus (simp only [Act.put, z1, z2, z3, i64_w, i32_w]; rfl)
       refine pure_ (i := 23) (N := some 26) (v := ?_) (a' := ?_) (zb 24 9) rfl rfl (any_of HT_.out (by kernel_rfl)) (fun _ _ _ h => h) (Or.inl ⟨by rfl, ?_⟩) ?_ ?_
       rotate_left; focus (intro w'; go_simp; with_reducible rfl)
       rotate_left; focus (simp only [Act.put, z1, z2, z3, i64_w, i32_w]; rfl)
       refine pure_ (i := 24) (N := some 27) (v := ?_) (a' := ?_) (zb 25 8) rfl rfl (any_of HT_.out (by kernel_rfl)) (fun _ _ _ h => h) (Or.inl ⟨by rfl, ?_⟩) ?_ ?_
       rotate_left; focus (intro w'; go_simp; with_reducible rfl)
       rotate_left; focus (simp only [Act.put, z1, z2, z3, i64_w, i32_w]; rfl)
       refine pure_ (i := 27) (N := some 30) (v := ?_) (a' := ?_) #[true,true,true,true,true,true,true,true,true,true,true,true,true,true,true,true,true,true,true,true,true,true,true,true,true,false,false,true,false,false,false,false,false] rfl rfl (any_of HT_.out (by kernel_rfl)) (fun _ _ _ h => h) (Or.inl ⟨by rfl, ?_⟩) ?_ ?_
       rotate_left; focus (intro w'; go_simp; with_reducible rfl)
       rotate_left; focus (simp only [Act.put, z1, z2, z3, i64_w, i32_w]; rfl)
       refine take_ (i := 25) (N := some 28) (v := ?_) (a' := ?_) #[true,true,true,true,true,true,true,true,true,true,true,true,true,true,true,true,true,true,true,true,true,true,true,true,true,true,false,true,false,false,false,false,false] rfl rfl (take_ofW HT_.out HW_.out (by kernel_rfl)) (fun _ _ _ h => h) (Or.inl ⟨by rfl, ?_⟩) hHeld ?_ ?_
       rotate_left
       · rintro w' ⟨s0, s1, s2, s3, s4, s5, s6, s7, s8, s9, s10, s11, s12, s13, s14⟩
         go_simp
         with_reducible rfl
       rotate_left; focus (simp only [Act.put, z1, z2, z3, i64_w, i32_w]; rfl)
       refine take_ (i := 28) (N := some 31) (v := ?_) (a' := ?_) #[true,true,true,true,true,true,true,true,true,true,true,true,true,true,true,true,true,true,true,true,true,true,true,true,true,true,false,true,true,false,false,false,false] rfl rfl (take_ofW HT_.out HW_.out (by kernel_rfl)) (fun _ _ _ h => h) (Or.inl ⟨by rfl, ?_⟩) hHeld ?_ ?_
       rotate_left
       · rintro w' ⟨s0, s1, s2, s3, s4, s5, s6, s7, s8, s9, s10, s11, s12, s13, s14⟩
         go_simp
         with_reducible rfl
       rotate_left; focus (simp only [Act.put, z1, z2, z3, i64_w, i32_w]; rfl)
       refine one_ (i := 26) (N := some 29) (zb 29 4) rfl rfl (one_of HT_.out (by kernel_rfl)) (by decide) (fun K hK => ?_)
       refine goes_ Tryd.func9 (by kernel_rfl) rfl #[.agg #[.slice A0_0 l0_0.length c0_0, .slice A0_1 l0_1.length c0_1, .slice A0_2 l0_2.length c0_2, .slice A0_3 l0_3.length c0_3, .slice A0_4 l0_4.length c0_4]] (by rfl) rfl rfl (by (try simp only [List.map_toArray, List.map_cons, List.map_nil]); first | done | rfl | (simp only [List.length_drop, List.length_take]; rfl)) ?_
       with_reducible refine (timing_Ends.calls k _ _ l0_0 _ _ l0_1 _ _ l0_2 _ _ l0_3 _ _ l0_4 t402 _ ?side1 ?side2 ?side3 ?side4 ?side5 ?side6 ?side7 ?side8 ?side9 ?side10 A9.out).mono ?_
       (case side1 => exact kc (Kd.C_below HR0_0.out HB.out))
       (case side2 => exact HC0_0.out)
       (case side3 => exact kc (Kd.C_below HR0_1.out HB.out))
       (case side4 => exact HC0_1.out)
       (case side5 => exact kc (Kd.C_below HR0_2.out HB.out))
       (case side6 => exact HC0_2.out)
       (case side7 => exact kc (Kd.C_below HR0_3.out HB.out))
       (case side8 => exact HC0_3.out)
       (case side9 => exact kc (Kd.C_below HR0_4.out HB.out))
       (case side10 => exact HC0_4.out)
       rintro e w18 ⟨v403, rfl, ho0, hb⟩
       refine ⟨_, rfl, ?_⟩
       have n0_ := Aside0.mk (Kd.R_lower ho0 (below_size bl))
       have n1_ := Aside0.mk (bb BK397.out hb)
       have n2_ := Aside0.mk (below_step bl hb)
       clear BK397
       clear HB
       have HO404 := n0_
       have BK397 := n1_
       have HB := n2_
       clear n0_ n1_ n2_
       (try clear hb)
       (try clear hb2)
       (try clear hk)
       (try clear hi)
       (try clear ho0)
       refine hK.out _ _ ⟨(blk_cell BK397.out 0).trans rfl, (blk_cell BK397.out 1).trans rfl, (blk_cell BK397.out 2).trans rfl, (blk_cell BK397.out 3).trans rfl, (blk_cell BK397.out 4).trans rfl, (blk_cell BK397.out 5).trans rfl, (blk_cell BK397.out 6).trans rfl, (blk_cell BK397.out 7).trans rfl, (blk_cell BK397.out 8).trans rfl, (blk_cell BK397.out 9).trans rfl, (blk_cell BK397.out 10).trans rfl, (blk_cell BK397.out 11).trans rfl, (blk_cell BK397.out 12).trans rfl, (blk_cell BK397.out 13).trans rfl, (blk_cell BK397.out 14).trans rfl⟩ (fun hHeld => ?_)
       clear hK K
       refine norm_ (a' := ?_) ?_ ?_
       rotate_left; focus (show Act.put _ (some 29) _ = _; simp only [Act.put, z1, z2, z3, i64_w, i32_w]; rfl)
       refine one_ (i := 29) (N := some 32) (zb 30 3) rfl rfl (one_of HT_.out (by kernel_rfl)) (by decide) (fun K hK => ?_)
       refine goes_ Tryd.func10 (by kernel_rfl) rfl #[.agg #[.slice A0_0 l0_0.length c0_0, .slice A0_1 l0_1.length c0_1, .slice A0_2 l0_2.length c0_2, .slice A0_3 l0_3.length c0_3, .slice A0_4 l0_4.length c0_4]] (by rfl) rfl rfl (by (try simp only [List.map_toArray, List.map_cons, List.map_nil]); first | done | rfl | (simp only [List.length_drop, List.length_take]; rfl)) ?_
       with_reducible refine (maskref4_EndsOf.calls k _ _ l0_0 _ _ l0_1 _ _ l0_2 _ _ l0_3 _ _ l0_4 t405 _ ?side1 ?side2 ?side3 ?side4 ?side5 ?side6 ?side7 ?side8 ?side9 ?side10 A10.out).mono ?_
       (case side1 => exact kc (Kd.C_below HR0_0.out HB.out))
       (case side2 => exact HC0_0.out)
       (case side3 => exact kc (Kd.C_below HR0_1.out HB.out))
       (case side4 => exact HC0_1.out)
       (case side5 => exact kc (Kd.C_below HR0_2.out HB.out))
       (case side6 => exact HC0_2.out)
       (case side7 => exact kc (Kd.C_below HR0_3.out HB.out))
       (case side8 => exact HC0_3.out)
       (case side9 => exact kc (Kd.C_below HR0_4.out HB.out))
       (case side10 => exact HC0_4.out)
       rintro e w19 ⟨v406, rfl, ho0, hb⟩
       refine ⟨_, rfl, ?_⟩
       have n0_ := Aside0.mk (Kd.R_elder' (by (with_reducible repeat (first | apply Kd.R_alloc | apply Kd.R_drewN | apply Kd.R_drew)); exact HO404.out) (Kd.R_base ho0) hb)
       have n1_ := Aside0.mk (Kd.R_lower (Kd.R_new' ho0 (Kd.R_lt (by (with_reducible repeat (first | apply Kd.R_alloc | apply Kd.R_drewN | apply Kd.R_drew)); exact HO404.out))) (below_size bl))
       have n2_ := Aside0.mk (bb BK397.out hb)
       have n3_ := Aside0.mk (below_step bl hb)
       clear HO404
       clear BK397
       clear HB
       have HO404 := n0_
       have HO407 := n1_
       have BK397 := n2_
       have HB := n3_
       clear n0_ n1_ n2_ n3_
       (try clear hb)
       (try clear hb2)
       (try clear hk)
       (try clear hi)
       (try clear ho0)
       obtain ⟨Ao20, co20, eo20⟩ := Kd.R_slice HO404.out
       (first | subst eo20 | (injection eo20 with f1_ f2_ f3_; have f4_ := f1_.symm; have f5_ := f3_.symm; clear f1_ f2_ f3_; subst f4_; subst f5_))
       obtain ⟨Ao21, co21, eo21⟩ := Kd.R_slice HO407.out
       (first | subst eo21 | (injection eo21 with f1_ f2_ f3_; have f4_ := f1_.symm; have f5_ := f3_.symm; clear f1_ f2_ f3_; subst f4_; subst f5_))
       refine hK.out _ _ ⟨(blk_cell BK397.out 0).trans rfl, (blk_cell BK397.out 1).trans rfl, (blk_cell BK397.out 2).trans rfl, (blk_cell BK397.out 3).trans rfl, (blk_cell BK397.out 4).trans rfl, (blk_cell BK397.out 5).trans rfl, (blk_cell BK397.out 6).trans rfl, (blk_cell BK397.out 7).trans rfl, (blk_cell BK397.out 8).trans rfl, (blk_cell BK397.out 9).trans rfl, (blk_cell BK397.out 10).trans rfl, (blk_cell BK397.out 11).trans rfl, (blk_cell BK397.out 12).trans rfl, (blk_cell BK397.out 13).trans rfl, (blk_cell BK397.out 14).trans rfl⟩ (fun hHeld => ?_)
       clear hK K
       refine norm_ (a' := ?_) ?_ ?_
       rotate_left; focus (show Act.put _ (some 32) _ = _; simp only [Act.put, z1, z2, z3, i64_w, i32_w]; rfl)
       refine one_ (i := 30) (N := some 33) (zb 31 2) rfl rfl (one_of HT_.out (by kernel_rfl)) (by decide) (fun K hK => ?_)
       refine goes_ Tryd.func8 (by kernel_rfl) rfl #[.slice Ao20 t402.length co20, .slice Ao21 t405.length co21] (by rfl) rfl rfl (by (try simp only [List.map_toArray, List.map_cons, List.map_nil]); first | done | rfl | (simp only [List.length_drop, List.length_take]; rfl)) ?_
       with_reducible refine (timing_End.calls k _ _ t402 _ _ t405 t408 _ ?side1 ?side2 ?side3 ?side4 A11.out).mono ?_
       (case side1 => exact kc ((Kd.R_reads' HO404.out).2.2))
       (case side2 => exact (Kd.R_reads' HO404.out).2.1)
       (case side3 => exact kc ((Kd.R_reads' HO407.out).2.2))
       (case side4 => exact (Kd.R_reads' HO407.out).2.1)
       rintro e w' ⟨rfl, ⟨nd, rfl⟩⟩
       refine ⟨_, rfl, ?_⟩
       refine hK.out _ _ ⟨(blk_cell BK397.out 0).trans rfl, (blk_cell BK397.out 1).trans rfl, (blk_cell BK397.out 2).trans rfl, (blk_cell BK397.out 3).trans rfl, (blk_cell BK397.out 4).trans rfl, (blk_cell BK397.out 5).trans rfl, (blk_cell BK397.out 6).trans rfl, (blk_cell BK397.out 7).trans rfl, (blk_cell BK397.out 8).trans rfl, (blk_cell BK397.out 9).trans rfl, (blk_cell BK397.out 10).trans rfl, (blk_cell BK397.out 11).trans rfl, (blk_cell BK397.out 12).trans rfl, (blk_cell BK397.out 13).trans rfl, (blk_cell BK397.out 14).trans rfl⟩ (fun hHeld => ?_)
       clear hK K
       refine norm_ (a' := ?_) ?_ ?_
       rotate_left; focus (show Act.put _ (some 33) _ = _; simp only [Act.put, z1, z2, z3, i64_w, i32_w]; rfl)
       refine pure_ (i := 31) (N := some 34) (v := ?_) (a' := ?_) (zb 32 1) rfl rfl (any_of HT_.out (by kernel_rfl)) (fun _ _ _ h => h) (Or.inl ⟨by rfl, ?_⟩) ?_ ?_
       rotate_left; focus (intro w'; go_simp; with_reducible rfl)
       rotate_left; focus (simp only [Act.put, z1, z2, z3, i64_w, i32_w]; rfl)
       refine pure_ (i := 32) (N := some 2) (v := ?_) (a' := ?_) (zb 33 0) rfl rfl (any_of HT_.out (by kernel_rfl)) (fun _ _ _ h => h) (Or.inl ⟨by rfl, ?_⟩) ?_ ?_
       rotate_left; focus (intro w'; go_simp; with_reducible rfl)
       rotate_left; focus (simp only [Act.put, z1, z2, z3, i64_w, i32_w]; rfl)
       refine done_ (done_of HT_.out (by kernel_rfl)) ?_
       try go_wp2
       go_ret
       exact ⟨by first | rfl | (simp [errW_none, errW_some] <;> rfl) | (simp [*, errW_none, errW_some] <;> rfl), bl⟩
     · rw [if_neg c8] at H
       have c8b0 : (t401 == (wrap64 ((l0_0.length : Int) + (l0_2.length : Int)))) = false := beq_eq_false_iff_ne.mpr c8
       have c8b1 : (t401 != (wrap64 ((l0_0.length : Int) + (l0_2.length : Int)))) = true := bne_iff_ne.mpr c8
       obtain rfl := Option.some.inj H
       go_enter Tryd.func3, Tryd.ntmps3
       try go_wp2_with ((with_reducible refine gate_dst (N := 1) rfl ?_); (try (refine gate_guard (by rfl) ?_; dsimp only)); refine box_event ?hg (N := 1) ?hd (cs := #[.slice A0_0 l0_0.length c0_0, .slice A0_1 l0_1.length c0_1, .slice A0_2 l0_2.length c0_2, .slice A0_3 l0_3.length c0_3, .slice A0_4 l0_4.length c0_4, .slice A0_5 l0_5.length c0_5, .slice A0_6 l0_6.length c0_6, .slice A0_7 l0_7.length c0_7, .slice A0_8 l0_8.length c0_8, .slice A0_9 l0_9.length c0_9, .slice A0_10 l0_10.length c0_10, .int .i64 a0_11, .slice A0_12 l0_12.length c0_12, .slice A0_13 l0_13.length c0_13, .slice A0_14 l0_14.length c0_14]) (t := 39) ?hr ?_; (case hd => rfl); (case hg => rfl); (case hr => first | (go_simp; done) | (go_simp; rfl)); intro gb397 hg w22 hbox hb; have BK397 := Aside0.mk (hbox); have GW397 := Aside0.mk (ge (w := w) hg); have GE397 := Aside0.mk (ge (w := w) hg); replace HB := Aside0.mk (below_step bl hb); clear hb hbox hg)
       have n0_ := Aside0.mk (blk_drew BK397.out)
       have n1_ := Aside0.mk (below_drew1 HB.out)
       clear BK397
       clear HB
       have BK397 := n0_
       have HB := n1_
       clear n0_ n1_
       refine start_ (n := 33) (S := fun w' => w'.cell? ⟨gb397, 0, none⟩ = some (.slice A0_0 l0_0.length c0_0) ∧ w'.cell? ⟨gb397, 1, none⟩ = some (.slice A0_1 l0_1.length c0_1) ∧ w'.cell? ⟨gb397, 2, none⟩ = some (.slice A0_2 l0_2.length c0_2) ∧ w'.cell? ⟨gb397, 3, none⟩ = some (.slice A0_3 l0_3.length c0_3) ∧ w'.cell? ⟨gb397, 4, none⟩ = some (.slice A0_4 l0_4.length c0_4) ∧ w'.cell? ⟨gb397, 5, none⟩ = some (.slice A0_5 l0_5.length c0_5) ∧ w'.cell? ⟨gb397, 6, none⟩ = some (.slice A0_6 l0_6.length c0_6) ∧ w'.cell? ⟨gb397, 7, none⟩ = some (.slice A0_7 l0_7.length c0_7) ∧ w'.cell? ⟨gb397, 8, none⟩ = some (.slice A0_8 l0_8.length c0_8) ∧ w'.cell? ⟨gb397, 9, none⟩ = some (.slice A0_9 l0_9.length c0_9) ∧ w'.cell? ⟨gb397, 10, none⟩ = some (.slice A0_10 l0_10.length c0_10) ∧ w'.cell? ⟨gb397, 11, none⟩ = some (.int .i64 a0_11) ∧ w'.cell? ⟨gb397, 12, none⟩ = some (.slice A0_12 l0_12.length c0_12) ∧ w'.cell? ⟨gb397, 13, none⟩ = some (.slice A0_13 l0_13.length c0_13) ∧ w'.cell? ⟨gb397, 14, none⟩ = some (.slice A0_14 l0_14.length c0_14)) (ds := []) (zb 0 33) (by kernel_rfl) rfl rfl ⟨(blk_cell BK397.out 0).trans rfl, (blk_cell BK397.out 1).trans rfl, (blk_cell BK397.out 2).trans rfl, (blk_cell BK397.out 3).trans rfl, (blk_cell BK397.out 4).trans rfl, (blk_cell BK397.out 5).trans rfl, (blk_cell BK397.out 6).trans rfl, (blk_cell BK397.out 7).trans rfl, (blk_cell BK397.out 8).trans rfl, (blk_cell BK397.out 9).trans rfl, (blk_cell BK397.out 10).trans rfl, (blk_cell BK397.out 11).trans rfl, (blk_cell BK397.out 12).trans rfl, (blk_cell BK397.out 13).trans rfl, (blk_cell BK397.out 14).trans rfl⟩ (fun hHeld => ?_); refine with_tabW masklaw4_TimingChecks.tab1 masklaw4_TimingChecks.bits1 (fun HT_ HW_ => ?_)
       generalize w22.drew = w23 at BK397 HB hHeld ⊢
       refine one_ (i := 0) (N := some 3) (zb 1 32) rfl rfl (one_of HT_.out (by kernel_rfl)) (by decide) (fun K hK => ?_)
       refine goes_ Tryd.func4 (by kernel_rfl) rfl #[] (by rfl) rfl rfl (by (try simp only [List.map_toArray, List.map_cons, List.map_nil]); first | done | rfl | (simp only [List.length_drop, List.length_take]; rfl)) ?_
       with_reducible refine (masklaw4_timed.calls  true _ A2.out).mono ?_
       rintro e w24 ⟨rfl, hb⟩
       refine ⟨_, rfl, ?_⟩
       have n0_ := Aside0.mk (bb BK397.out hb)
       have n1_ := Aside0.mk (below_step bl hb)
       clear BK397
       clear HB
       have BK397 := n0_
       have HB := n1_
       clear n0_ n1_
       (try clear hb)
       (try clear hb2)
       (try clear hk)
       (try clear hi)
       refine hK.out _ _ ⟨(blk_cell BK397.out 0).trans rfl, (blk_cell BK397.out 1).trans rfl, (blk_cell BK397.out 2).trans rfl, (blk_cell BK397.out 3).trans rfl, (blk_cell BK397.out 4).trans rfl, (blk_cell BK397.out 5).trans rfl, (blk_cell BK397.out 6).trans rfl, (blk_cell BK397.out 7).trans rfl, (blk_cell BK397.out 8).trans rfl, (blk_cell BK397.out 9).trans rfl, (blk_cell BK397.out 10).trans rfl, (blk_cell BK397.out 11).trans rfl, (blk_cell BK397.out 12).trans rfl, (blk_cell BK397.out 13).trans rfl, (blk_cell BK397.out 14).trans rfl⟩ (fun hHeld => ?_)
       clear hK K
       refine norm_ (a' := ?_) ?_ ?_
       rotate_left; focus (show Act.put _ (some 3) _ = _; simp only [Act.put, z1, z2, z3, i64_w, i32_w]; rfl)
       refine pure_ (i := 1) (N := some 4) (v := ?_) (a' := ?_) (zb 2 31) rfl rfl (any_of HT_.out (by kernel_rfl)) (fun _ _ _ h => h) (Or.inl ⟨by rfl, ?_⟩) ?_ ?_
       rotate_left; focus (intro w'; go_simp; with_reducible rfl)
       rotate_left; focus (simp only [Act.put, z1, z2, z3, i64_w, i32_w]; rfl)
       refine take_ (i := 2) (N := some 5) (v := ?_) (a' := ?_) (zb 3 30) rfl rfl (take_ofW HT_.out HW_.out (by kernel_rfl)) (fun _ _ _ h => h) (Or.inl ⟨by rfl, ?_⟩) hHeld ?_ ?_
       rotate_left
       · rintro w' ⟨s0, s1, s2, s3, s4, s5, s6, s7, s8, s9, s10, s11, s12, s13, s14⟩
         go_simp
         with_reducible rfl
       rotate_left; focus (simp only [Act.put, z1, z2, z3, i64_w, i32_w]; rfl)
       refine take_ (i := 4) (N := some 7) (v := ?_) (a' := ?_) #[true,true,true,false,true,false,false,false,false,false,false,false,false,false,false,false,false,false,false,false,false,false,false,false,false,false,false,false,false,false,false,false,false] rfl rfl (take_ofW HT_.out HW_.out (by kernel_rfl)) (fun _ _ _ h => h) (Or.inl ⟨by rfl, ?_⟩) hHeld ?_ ?_
       rotate_left
       · rintro w' ⟨s0, s1, s2, s3, s4, s5, s6, s7, s8, s9, s10, s11, s12, s13, s14⟩
         go_simp
         with_reducible rfl
       rotate_left; focus (simp only [Act.put, z1, z2, z3, i64_w, i32_w]; rfl)
       refine one_ (i := 3) (N := some 6) (zb 5 28) rfl rfl (one_of HT_.out (by kernel_rfl)) (by decide) (fun K hK => ?_)
       refine goes_ Tryd.func5 (by kernel_rfl) rfl #[.agg #[.slice A0_0 l0_0.length c0_0, .slice A0_1 l0_1.length c0_1, .slice A0_2 l0_2.length c0_2, .slice A0_3 l0_3.length c0_3, .slice A0_4 l0_4.length c0_4, .slice A0_5 l0_5.length c0_5, .slice A0_6 l0_6.length c0_6, .slice A0_7 l0_7.length c0_7, .slice A0_8 l0_8.length c0_8, .slice A0_9 l0_9.length c0_9, .slice A0_10 l0_10.length c0_10, .int .i64 a0_11, .slice A0_12 l0_12.length c0_12, .slice A0_13 l0_13.length c0_13, .slice A0_14 l0_14.length c0_14]] (by rfl) rfl rfl (by (try simp only [List.map_toArray, List.map_cons, List.map_nil]); first | done | rfl | (simp only [List.length_drop, List.length_take]; rfl)) ?_
       with_reducible refine (timing_Check.calls k _ _ l0_0 _ _ l0_1 _ _ l0_2 _ _ l0_3 _ _ l0_4 _ _ l0_5 _ _ l0_6 _ _ l0_7 _ _ l0_8 _ _ l0_9 _ _ l0_10 a0_11 _ _ l0_12 _ _ l0_13 _ _ l0_14 t399 _ ?side1 ?side2 ?side3 ?side4 ?side5 ?side6 ?side7 ?side8 ?side9 ?side10 ?side11 ?side12 ?side13 ?side14 ?side15 ?side16 ?side17 ?side18 ?side19 ?side20 ?side21 ?side22 ?side23 ?side24 ?side25 ?side26 ?side27 ?side28 A4.out ?sideT).mono ?_
       (case sideT => exact HTA.out _ (by repeat (first | exact HB.out | (with_reducible refine below_alloc ?_ _) | (with_reducible refine pw_below_drewN ?_ _) | (with_reducible refine below_drew1 ?_))))
       (case side1 => exact kc (Kd.C_below HR0_0.out HB.out))
       (case side2 => exact HC0_0.out)
       (case side3 => exact kc (Kd.C_below HR0_1.out HB.out))
       (case side4 => exact HC0_1.out)
       (case side5 => exact kc (Kd.C_below HR0_2.out HB.out))
       (case side6 => exact HC0_2.out)
       (case side7 => exact kc (Kd.C_below HR0_3.out HB.out))
       (case side8 => exact HC0_3.out)
       (case side9 => exact kc (Kd.C_below HR0_4.out HB.out))
       (case side10 => exact HC0_4.out)
       (case side11 => exact kc (Kd.C_below HR0_5.out HB.out))
       (case side12 => exact HC0_5.out)
       (case side13 => exact kc (Kd.C_below HR0_6.out HB.out))
       (case side14 => exact HC0_6.out)
       (case side15 => exact kc (Kd.C_below HR0_7.out HB.out))
       (case side16 => exact HC0_7.out)
       (case side17 => exact kc (Kd.C_below HR0_8.out HB.out))
       (case side18 => exact HC0_8.out)
       (case side19 => exact kc (Kd.C_below HR0_9.out HB.out))
       (case side20 => exact HC0_9.out)
       (case side21 => exact kc (Kd.C_below HR0_10.out HB.out))
       (case side22 => exact HC0_10.out)
       (case side23 => exact kc (Kd.C_below HR0_12.out HB.out))
       (case side24 => exact HC0_12.out)
       (case side25 => exact kc (Kd.C_below HR0_13.out HB.out))
       (case side26 => exact HC0_13.out)
       (case side27 => exact kc (Kd.C_below HR0_14.out HB.out))
       (case side28 => exact HC0_14.out)
       rintro e w25 ⟨rfl, hb⟩
       refine ⟨_, rfl, ?_⟩
       have n0_ := Aside0.mk (bb BK397.out hb)
       have n1_ := Aside0.mk (below_step bl hb)
       clear BK397
       clear HB
       have BK397 := n0_
       have HB := n1_
       clear n0_ n1_
       (try clear hb)
       (try clear hb2)
       (try clear hk)
       (try clear hi)
       refine hK.out _ _ ⟨(blk_cell BK397.out 0).trans rfl, (blk_cell BK397.out 1).trans rfl, (blk_cell BK397.out 2).trans rfl, (blk_cell BK397.out 3).trans rfl, (blk_cell BK397.out 4).trans rfl, (blk_cell BK397.out 5).trans rfl, (blk_cell BK397.out 6).trans rfl, (blk_cell BK397.out 7).trans rfl, (blk_cell BK397.out 8).trans rfl, (blk_cell BK397.out 9).trans rfl, (blk_cell BK397.out 10).trans rfl, (blk_cell BK397.out 11).trans rfl, (blk_cell BK397.out 12).trans rfl, (blk_cell BK397.out 13).trans rfl, (blk_cell BK397.out 14).trans rfl⟩ (fun hHeld => ?_)
       clear hK K
       refine norm_ (a' := ?_) ?_ ?_
       rotate_left; focus (show Act.put _ (some 6) _ = _; simp only [Act.put, z1, z2, z3, i64_w, i32_w]; rfl)
       refine one_ (i := 5) (N := some 8) (zb 6 27) rfl rfl (one_of HT_.out (by kernel_rfl)) (by decide) (fun K hK => ?_)
       refine goes_ Tryd.func6 (by kernel_rfl) rfl #[.agg #[.slice A0_0 l0_0.length c0_0, .slice A0_1 l0_1.length c0_1, .slice A0_2 l0_2.length c0_2, .slice A0_3 l0_3.length c0_3, .slice A0_4 l0_4.length c0_4, .slice A0_5 l0_5.length c0_5, .slice A0_6 l0_6.length c0_6, .slice A0_7 l0_7.length c0_7, .slice A0_8 l0_8.length c0_8, .slice A0_9 l0_9.length c0_9, .slice A0_10 l0_10.length c0_10, .int .i64 a0_11, .slice A0_12 l0_12.length c0_12, .slice A0_13 l0_13.length c0_13, .slice A0_14 l0_14.length c0_14]] (by rfl) rfl rfl (by (try simp only [List.map_toArray, List.map_cons, List.map_nil]); first | done | rfl | (simp only [List.length_drop, List.length_take]; rfl)) ?_
       with_reducible refine (maskref4_JobFault.calls k _ _ l0_0 _ _ l0_1 _ _ l0_2 _ _ l0_3 _ _ l0_4 _ _ l0_5 _ _ l0_6 _ _ l0_7 _ _ l0_8 _ _ l0_9 _ _ l0_10 a0_11 _ _ l0_12 _ _ l0_13 _ _ l0_14 t400 _ ?side1 ?side2 ?side3 ?side4 ?side5 ?side6 ?side7 ?side8 ?side9 ?side10 ?side11 ?side12 ?side13 ?side14 ?side15 ?side16 ?side17 ?side18 ?side19 ?side20 ?side21 ?side22 ?side23 ?side24 ?side25 ?side26 ?side27 ?side28 A5.out).mono ?_
       (case side1 => exact kc (Kd.C_below HR0_0.out HB.out))
       (case side2 => exact HC0_0.out)
       (case side3 => exact kc (Kd.C_below HR0_1.out HB.out))
       (case side4 => exact HC0_1.out)
       (case side5 => exact kc (Kd.C_below HR0_2.out HB.out))
       (case side6 => exact HC0_2.out)
       (case side7 => exact kc (Kd.C_below HR0_3.out HB.out))
       (case side8 => exact HC0_3.out)
       (case side9 => exact kc (Kd.C_below HR0_4.out HB.out))
       (case side10 => exact HC0_4.out)
       (case side11 => exact kc (Kd.C_below HR0_5.out HB.out))
       (case side12 => exact HC0_5.out)
       (case side13 => exact kc (Kd.C_below HR0_6.out HB.out))
       (case side14 => exact HC0_6.out)
       (case side15 => exact kc (Kd.C_below HR0_7.out HB.out))
       (case side16 => exact HC0_7.out)
       (case side17 => exact kc (Kd.C_below HR0_8.out HB.out))
       (case side18 => exact HC0_8.out)
       (case side19 => exact kc (Kd.C_below HR0_9.out HB.out))
       (case side20 => exact HC0_9.out)
       (case side21 => exact kc (Kd.C_below HR0_10.out HB.out))
       (case side22 => exact HC0_10.out)
       (case side23 => exact kc (Kd.C_below HR0_12.out HB.out))
       (case side24 => exact HC0_12.out)
       (case side25 => exact kc (Kd.C_below HR0_13.out HB.out))
       (case side26 => exact HC0_13.out)
       (case side27 => exact kc (Kd.C_below HR0_14.out HB.out))
       (case side28 => exact HC0_14.out)
       rintro e w26 ⟨rfl, hb⟩
       refine ⟨_, rfl, ?_⟩
       have n0_ := Aside0.mk (bb BK397.out hb)
       have n1_ := Aside0.mk (below_step bl hb)
       clear BK397
       clear HB
       have BK397 := n0_
       have HB := n1_
       clear n0_ n1_
       (try clear hb)
       (try clear hb2)
       (try clear hk)
       (try clear hi)
       refine hK.out _ _ ⟨(blk_cell BK397.out 0).trans rfl, (blk_cell BK397.out 1).trans rfl, (blk_cell BK397.out 2).trans rfl, (blk_cell BK397.out 3).trans rfl, (blk_cell BK397.out 4).trans rfl, (blk_cell BK397.out 5).trans rfl, (blk_cell BK397.out 6).trans rfl, (blk_cell BK397.out 7).trans rfl, (blk_cell BK397.out 8).trans rfl, (blk_cell BK397.out 9).trans rfl, (blk_cell BK397.out 10).trans rfl, (blk_cell BK397.out 11).trans rfl, (blk_cell BK397.out 12).trans rfl, (blk_cell BK397.out 13).trans rfl, (blk_cell BK397.out 14).trans rfl⟩ (fun hHeld => ?_)
       clear hK K
       refine norm_ (a' := ?_) ?_ ?_
       rotate_left; focus (show Act.put _ (some 8) _ = _; simp only [Act.put, z1, z2, z3, i64_w, i32_w]; rfl)
       refine pure_ (i := 6) (N := some 9) (v := ?_) (a' := ?_) (zb 7 26) rfl rfl (any_of HT_.out (by kernel_rfl)) (fun _ _ _ h => h) (Or.inl ⟨by rfl, ?_⟩) ?_ ?_
       rotate_left; focus (intro w'; go_simp; with_reducible rfl)
       rotate_left; focus (simp only [Act.put, z1, z2, z3, i64_w, i32_w]; rfl)
       refine pure_ (i := 7) (N := some 10) (v := ?_) (a' := ?_) (zb 8 25) rfl rfl (any_of HT_.out (by kernel_rfl)) (fun _ _ _ h => h) (Or.inl ⟨by rfl, ?_⟩) ?_ ?_
       rotate_left; focus (intro w'; go_simp; with_reducible rfl)
       rotate_left; focus (simp only [Act.put, z1, z2, z3, i64_w, i32_w]; rfl)
       refine pure_ (i := 8) (N := some 11) (v := ?_) (a' := ?_) (zb 9 24) rfl rfl (any_of HT_.out (by kernel_rfl)) (fun _ _ _ h => h) (Or.inl ⟨by rfl, ?_⟩) ?_ ?_
       rotate_left; focus (intro w'; go_simp; with_reducible rfl)
       rotate_left; focus (simp only [Act.put, z1, z2, z3, i64_w, i32_w]; rfl)
       refine pure_ (i := 9) (N := some 12) (v := ?_) (a' := ?_) (zb 10 23) rfl rfl (any_of HT_.out (by kernel_rfl)) (fun _ _ _ h => h) (Or.inl ⟨by rfl, ?_⟩) ?_ ?_
       rotate_left; focus (intro w'; go_simp; with_reducible rfl)
       rotate_left; focus (simp only [Act.put, z1, z2, z3, i64_w, i32_w]; rfl)
       refine pure_ (i := 12) (N := some 15) (v := ?_) (a' := ?_) #[true,true,true,true,true,true,true,true,true,true,false,false,true,false,false,false,false,false,false,false,false,false,false,false,false,false,false,false,false,false,false,false,false] rfl rfl (any_of HT_.out (by kernel_rfl)) (fun _ _ _ h => h) (Or.inl ⟨by rfl, ?_⟩) ?_ ?_
       rotate_left; focus (intro w'; go_simp; with_reducible rfl)
       rotate_left; focus (simp only [Act.put, z1, z2, z3, i64_w, i32_w]; rfl)
       refine pure_ (i := 13) (N := some 16) (v := ?_) (a' := ?_) #[true,true,true,true,true,true,true,true,true,true,false,false,true,true,false,false,false,false,false,false,false,false,false,false,false,false,false,false,false,false,false,false,false] rfl rfl (any_of HT_.out (by kernel_rfl)) (fun _ _ _ h => h) (Or.inl ⟨by rfl, ?_⟩) ?_ ?_
       rotate_left; focus (intro w'; go_simp; with_reducible rfl)
       rotate_left; focus (simp only [Act.put, z1, z2, z3, i64_w, i32_w]; rfl)
       refine pure_ (i := 16) (N := some 19) (v := ?_) (a' := ?_) #[true,true,true,true,true,true,true,true,true,true,false,false,true,true,false,false,true,false,false,false,false,false,false,false,false,false,false,false,false,false,false,false,false] rfl rfl (any_of HT_.out (by kernel_rfl)) (fun _ _ _ h => h) (Or.inl ⟨by rfl, ?_⟩) ?_ ?_
       rotate_left; focus (intro w'; go_simp; with_reducible rfl)
       rotate_left; focus (simp only [Act.put, z1, z2, z3, i64_w, i32_w]; rfl)
       refine pure_ (i := 17) (N := some 20) (v := ?_) (a' := ?_) #[true,true,true,true,true,true,true,true,true,true,false,false,true,true,false,false,true,true,false,false,false,false,false,false,false,false,false,false,false,false,false,false,false] rfl rfl (any_of HT_.out (by kernel_rfl)) (fun _ _ _ h => h) (Or.inl ⟨by rfl, ?_⟩) ?_ ?_
       rotate_left; focus (intro w'; go_simp; with_reducible rfl)
       rotate_left; focus (simp only [Act.put, z1, z2, z3, i64_w, i32_w]; rfl)
       refine take_ (i := 10) (N := some 13) (v := ?_) (a' := ?_) #[true,true,true,true,true,true,true,true,true,true,true,false,true,true,false,false,true,true,false,false,false,false,false,false,false,false,false,false,false,false,false,false,false] rfl rfl (take_ofW HT_.out HW_.out (by kernel_rfl)) (fun _ _ _ h => h) (Or.inl ⟨by rfl, ?_⟩) hHeld ?_ ?_
       rotate_left
       · rintro w' ⟨s0, s1, s2, s3, s4, s5, s6, s7, s8, s9, s10, s11, s12, s13, s14⟩
         go_simp
         with_reducible rfl
       rotate_left; focus (simp only [Act.put, z1, z2, z3, i64_w, i32_w]; rfl)
       refine take_ (i := 14) (N := some 17) (v := ?_) (a' := ?_) #[true,true,true,true,true,true,true,true,true,true,true,false,true,true,true,false,true,true,false,false,false,false,false,false,false,false,false,false,false,false,false,false,false] rfl rfl (take_ofW HT_.out HW_.out (by kernel_rfl)) (fun _ _ _ h => h) (Or.inl ⟨by rfl, ?_⟩) hHeld ?_ ?_
       rotate_left
       · rintro w' ⟨s0, s1, s2, s3, s4, s5, s6, s7, s8, s9, s10, s11, s12, s13, s14⟩
         go_simp
         with_reducible rfl
       rotate_left; focus (simp only [Act.put, z1, z2, z3, i64_w, i32_w]; rfl)
       refine pure_ (i := 15) (N := some 18) (v := ?_) (a' := ?_) #[true,true,true,true,true,true,true,true,true,true,true,false,true,true,true,true,true,true,false,false,false,false,false,false,false,false,false,false,false,false,false,false,false] rfl rfl (any_of HT_.out (by kernel_rfl)) (fun _ _ _ h => h) (Or.inl ⟨by rfl, ?_⟩) ?_ ?_
       rotate_left; focus (intro w'; go_simp; with_reducible rfl)
       rotate_left; focus (simp only [Act.put, z1, z2, z3, i64_w, i32_w]; rfl)
       refine take_ (i := 18) (N := some 21) (v := ?_) (a' := ?_) #[true,true,true,true,true,true,true,true,true,true,true,false,true,true,true,true,true,true,true,false,false,false,false,false,false,false,false,false,false,false,false,false,false] rfl rfl (take_ofW HT_.out HW_.out (by kernel_rfl)) (fun _ _ _ h => h) (Or.inl ⟨by rfl, ?_⟩) hHeld ?_ ?_
       rotate_left
       · rintro w' ⟨s0, s1, s2, s3, s4, s5, s6, s7, s8, s9, s10, s11, s12, s13, s14⟩
         go_simp
         with_reducible rfl
       rotate_left; focus (simp only [Act.put, z1, z2, z3, i64_w, i32_w]; rfl)
       refine pure_ (i := 19) (N := some 22) (v := ?_) (a' := ?_) #[true,true,true,true,true,true,true,true,true,true,true,false,true,true,true,true,true,true,true,true,false,false,false,false,false,false,false,false,false,false,false,false,false] rfl rfl (any_of HT_.out (by kernel_rfl)) (fun _ _ _ h => h) (Or.inl ⟨by rfl, ?_⟩) ?_ ?_
       rotate_left; focus (intro w'; go_simp; with_reducible rfl)
       rotate_left; focus (simp only [Act.put, z1, z2, z3, i64_w, i32_w]; rfl)
       refine pure_ (i := 20) (N := some 23) (v := ?_) (a' := ?_) #[true,true,true,true,true,true,true,true,true,true,true,false,true,true,true,true,true,true,true,true,true,false,false,false,false,false,false,false,false,false,false,false,false] rfl rfl (any_of HT_.out (by kernel_rfl)) (fun _ _ _ h => h) (Or.inl ⟨by rfl, ?_⟩) ?_ ?_
       rotate_left; focus (intro w'; go_simp; with_reducible rfl)
       rotate_left; focus (simp only [Act.put, z1, z2, z3, i64_w, i32_w]; rfl)
       refine one_ (i := 11) (N := some 14) (zb 21 12) rfl rfl (one_of HT_.out (by kernel_rfl)) (by decide) (fun K hK => ?_)
       refine goes_ Tryd.func7 (by kernel_rfl) rfl #[.agg #[.slice A0_0 l0_0.length c0_0, .slice A0_1 l0_1.length c0_1, .slice A0_2 l0_2.length c0_2, .slice A0_3 l0_3.length c0_3, .slice A0_4 l0_4.length c0_4]] (by rfl) rfl rfl (by (try simp only [List.map_toArray, List.map_cons, List.map_nil]); first | done | rfl | (simp only [List.length_drop, List.length_take]; rfl)) ?_
       with_reducible refine (timing_Starts.calls _ _ l0_0 _ _ l0_1 _ _ l0_2 _ _ l0_3 _ _ l0_4 t401 _ ?side1 ?side2 ?side3 ?side4 ?side5 ?side6 ?side7 ?side8 ?side9 ?side10 A7.out).mono ?_
       (case side1 => exact kc (Kd.C_below HR0_0.out HB.out))
       (case side2 => exact HC0_0.out)
       (case side3 => exact kc (Kd.C_below HR0_1.out HB.out))
       (case side4 => exact HC0_1.out)
       (case side5 => exact kc (Kd.C_below HR0_2.out HB.out))
       (case side6 => exact HC0_2.out)
       (case side7 => exact kc (Kd.C_below HR0_3.out HB.out))
       (case side8 => exact HC0_3.out)
       (case side9 => exact kc (Kd.C_below HR0_4.out HB.out))
       (case side10 => exact HC0_4.out)
       rintro e w27 ⟨rfl, hb⟩
       refine ⟨_, rfl, ?_⟩
       have n0_ := Aside0.mk (bb BK397.out hb)
       have n1_ := Aside0.mk (below_step bl hb)
       clear BK397
       clear HB
       have BK397 := n0_
       have HB := n1_
       clear n0_ n1_
       (try clear hb)
       (try clear hb2)
       (try clear hk)
       (try clear hi)
       refine hK.out _ _ ⟨(blk_cell BK397.out 0).trans rfl, (blk_cell BK397.out 1).trans rfl, (blk_cell BK397.out 2).trans rfl, (blk_cell BK397.out 3).trans rfl, (blk_cell BK397.out 4).trans rfl, (blk_cell BK397.out 5).trans rfl, (blk_cell BK397.out 6).trans rfl, (blk_cell BK397.out 7).trans rfl, (blk_cell BK397.out 8).trans rfl, (blk_cell BK397.out 9).trans rfl, (blk_cell BK397.out 10).trans rfl, (blk_cell BK397.out 11).trans rfl, (blk_cell BK397.out 12).trans rfl, (blk_cell BK397.out 13).trans rfl, (blk_cell BK397.out 14).trans rfl⟩ (fun hHeld => ?_)
       clear hK K
       refine norm_ (a' := ?_) ?_ ?_
       rotate_left; focus (show Act.put _ (some 14) _ = _; simp only [Act.put, z1, z2, z3, i64_w, i32_w]; rfl)
       refine pure_ (i := 21) (N := some 24) (v := ?_) (a' := ?_) (zb 22 11) rfl rfl (any_of HT_.out (by kernel_rfl)) (fun _ _ _ h => h) (Or.inl ⟨by rfl, ?_⟩) ?_ ?_
       rotate_left; focus (intro w'; go_simp; with_reducible rfl)
       rotate_left; focus (simp only [Act.put, z1, z2, z3, i64_w, i32_w]; rfl)
       refine pure_ (i := 22) (N := some 25) (v := ?_) (a' := ?_) (zb 23 10) rfl rfl (any_of HT_.out (by kernel_rfl)) (fun _ _ _ h => h) (Or.inl ⟨by rfl, ?_⟩) ?_ ?_
       rotate_left; focus (intro w'; go_simp; with_reducible rfl)
       rotate_left; focus (simp only [Act.put, z1, z2, z3, i64_w, i32_w]; rfl)
       refine pure_ (i := 23) (N := some 26) (v := ?_) (a' := ?_) (zb 24 9) rfl rfl (any_of HT_.out (by kernel_rfl)) (fun _ _ _ h => h) (Or.inl ⟨by rfl, ?_⟩) ?_ ?_
       rotate_left; focus (intro w'; go_simp; with_reducible rfl)
       rotate_left; focus (simp only [Act.put, z1, z2, z3, i64_w, i32_w]; rfl)
       refine pure_ (i := 24) (N := some 27) (v := undef) (a' := ?_) (zb 25 8) rfl rfl (any_of HT_.out (by kernel_rfl)) (fun _ _ _ h => h) (Or.inr ⟨by rfl, rfl⟩) ?_ ?_
       rotate_left; focus (simp only [Act.put, z1, z2, z3, i64_w, i32_w]; rfl)
       refine pure_ (i := 25) (N := some 28) (v := undef) (a' := ?_) (zb 26 7) rfl rfl (any_of HT_.out (by kernel_rfl)) (fun _ _ _ h => h) (Or.inr ⟨by rfl, rfl⟩) ?_ ?_
       rotate_left; focus (simp only [Act.put, z1, z2, z3, i64_w, i32_w]; rfl)
       refine pure_ (i := 26) (N := some 29) (v := undef) (a' := ?_) (zb 27 6) rfl rfl (any_of HT_.out (by kernel_rfl)) (fun _ _ _ h => h) (Or.inr ⟨by rfl, rfl⟩) ?_ ?_
       rotate_left; focus (simp only [Act.put, z1, z2, z3, i64_w, i32_w]; rfl)
       refine pure_ (i := 27) (N := some 30) (v := undef) (a' := ?_) (zb 28 5) rfl rfl (any_of HT_.out (by kernel_rfl)) (fun _ _ _ h => h) (Or.inr ⟨by rfl, rfl⟩) ?_ ?_
       rotate_left; focus (simp only [Act.put, z1, z2, z3, i64_w, i32_w]; rfl)
       refine pure_ (i := 28) (N := some 31) (v := undef) (a' := ?_) (zb 29 4) rfl rfl (any_of HT_.out (by kernel_rfl)) (fun _ _ _ h => h) (Or.inr ⟨by rfl, rfl⟩) ?_ ?_
       rotate_left; focus (simp only [Act.put, z1, z2, z3, i64_w, i32_w]; rfl)
       refine pure_ (i := 29) (N := some 32) (v := undef) (a' := ?_) (zb 30 3) rfl rfl (any_of HT_.out (by kernel_rfl)) (fun _ _ _ h => h) (Or.inr ⟨by rfl, rfl⟩) ?_ ?_
       rotate_left; focus (simp only [Act.put, z1, z2, z3, i64_w, i32_w]; rfl)
       refine pure_ (i := 30) (N := some 33) (v := undef) (a' := ?_) (zb 31 2) rfl rfl (any_of HT_.out (by kernel_rfl)) (fun _ _ _ h => h) (Or.inr ⟨by rfl, rfl⟩) ?_ ?_
       rotate_left; focus (simp only [Act.put, z1, z2, z3, i64_w, i32_w]; rfl)
       refine pure_ (i := 31) (N := some 34) (v := ?_) (a' := ?_) (zb 32 1) rfl rfl (any_of HT_.out (by kernel_rfl)) (fun _ _ _ h => h) (Or.inl ⟨by rfl, ?_⟩) ?_ ?_
       rotate_left; focus (intro w'; go_simp; with_reducible rfl)
       rotate_left; focus (simp only [Act.put, z1, z2, z3, i64_w, i32_w]; rfl)
       refine pure_ (i := 32) (N := some 2) (v := ?_) (a' := ?_) (zb 33 0) rfl rfl (any_of HT_.out (by kernel_rfl)) (fun _ _ _ h => h) (Or.inl ⟨by rfl, ?_⟩) ?_ ?_
       rotate_left; focus (intro w'; go_simp; with_reducible rfl)
       rotate_left; focus (simp only [Act.put, z1, z2, z3, i64_w, i32_w]; rfl)
       refine done_ (done_of HT_.out (by kernel_rfl)) ?_
       try go_wp2
       go_ret
       exact ⟨by first | rfl | (simp [errW_none, errW_some] <;> rfl) | (simp [*, errW_none, errW_some] <;> rfl), bl⟩
   · rw [if_neg c6] at H
     have c6b0 : (t399 == t400) = false := beq_eq_false_iff_ne.mpr c6
     have c6b1 : (t399 != t400) = true := bne_iff_ne.mpr c6
     obtain rfl := Option.some.inj H
     go_enter Tryd.func3, Tryd.ntmps3
     try go_wp2_with ((with_reducible refine gate_dst (N := 1) rfl ?_); (try (refine gate_guard (by rfl) ?_; dsimp only)); refine box_event ?hg (N := 1) ?hd (cs := #[.slice A0_0 l0_0.length c0_0, .slice A0_1 l0_1.length c0_1, .slice A0_2 l0_2.length c0_2, .slice A0_3 l0_3.length c0_3, .slice A0_4 l0_4.length c0_4, .slice A0_5 l0_5.length c0_5, .slice A0_6 l0_6.length c0_6, .slice A0_7 l0_7.length c0_7, .slice A0_8 l0_8.length c0_8, .slice A0_9 l0_9.length c0_9, .slice A0_10 l0_10.length c0_10, .int .i64 a0_11, .slice A0_12 l0_12.length c0_12, .slice A0_13 l0_13.length c0_13, .slice A0_14 l0_14.length c0_14]) (t := 39) ?hr ?_; (case hd => rfl); (case hg => rfl); (case hr => first | (go_simp; done) | (go_simp; rfl)); intro gb397 hg w28 hbox hb; have BK397 := Aside0.mk (hbox); have GW397 := Aside0.mk (ge (w := w) hg); have GE397 := Aside0.mk (ge (w := w) hg); replace HB := Aside0.mk (below_step bl hb); clear hb hbox hg)
     have n0_ := Aside0.mk (blk_drew BK397.out)
     have n1_ := Aside0.mk (below_drew1 HB.out)
     clear BK397
     clear HB
     have BK397 := n0_
     have HB := n1_
     clear n0_ n1_
     refine start_ (n := 33) (S := fun w' => w'.cell? ⟨gb397, 0, none⟩ = some (.slice A0_0 l0_0.length c0_0) ∧ w'.cell? ⟨gb397, 1, none⟩ = some (.slice A0_1 l0_1.length c0_1) ∧ w'.cell? ⟨gb397, 2, none⟩ = some (.slice A0_2 l0_2.length c0_2) ∧ w'.cell? ⟨gb397, 3, none⟩ = some (.slice A0_3 l0_3.length c0_3) ∧ w'.cell? ⟨gb397, 4, none⟩ = some (.slice A0_4 l0_4.length c0_4) ∧ w'.cell? ⟨gb397, 5, none⟩ = some (.slice A0_5 l0_5.length c0_5) ∧ w'.cell? ⟨gb397, 6, none⟩ = some (.slice A0_6 l0_6.length c0_6) ∧ w'.cell? ⟨gb397, 7, none⟩ = some (.slice A0_7 l0_7.length c0_7) ∧ w'.cell? ⟨gb397, 8, none⟩ = some (.slice A0_8 l0_8.length c0_8) ∧ w'.cell? ⟨gb397, 9, none⟩ = some (.slice A0_9 l0_9.length c0_9) ∧ w'.cell? ⟨gb397, 10, none⟩ = some (.slice A0_10 l0_10.length c0_10) ∧ w'.cell? ⟨gb397, 11, none⟩ = some (.int .i64 a0_11) ∧ w'.cell? ⟨gb397, 12, none⟩ = some (.slice A0_12 l0_12.length c0_12) ∧ w'.cell? ⟨gb397, 13, none⟩ = some (.slice A0_13 l0_13.length c0_13) ∧ w'.cell? ⟨gb397, 14, none⟩ = some (.slice A0_14 l0_14.length c0_14)) (ds := []) (zb 0 33) (by kernel_rfl) rfl rfl ⟨(blk_cell BK397.out 0).trans rfl, (blk_cell BK397.out 1).trans rfl, (blk_cell BK397.out 2).trans rfl, (blk_cell BK397.out 3).trans rfl, (blk_cell BK397.out 4).trans rfl, (blk_cell BK397.out 5).trans rfl, (blk_cell BK397.out 6).trans rfl, (blk_cell BK397.out 7).trans rfl, (blk_cell BK397.out 8).trans rfl, (blk_cell BK397.out 9).trans rfl, (blk_cell BK397.out 10).trans rfl, (blk_cell BK397.out 11).trans rfl, (blk_cell BK397.out 12).trans rfl, (blk_cell BK397.out 13).trans rfl, (blk_cell BK397.out 14).trans rfl⟩ (fun hHeld => ?_); refine with_tabW masklaw4_TimingChecks.tab1 masklaw4_TimingChecks.bits1 (fun HT_ HW_ => ?_)
     generalize w28.drew = w29 at BK397 HB hHeld ⊢
     refine one_ (i := 0) (N := some 3) (zb 1 32) rfl rfl (one_of HT_.out (by kernel_rfl)) (by decide) (fun K hK => ?_)
     refine goes_ Tryd.func4 (by kernel_rfl) rfl #[] (by rfl) rfl rfl (by (try simp only [List.map_toArray, List.map_cons, List.map_nil]); first | done | rfl | (simp only [List.length_drop, List.length_take]; rfl)) ?_
     with_reducible refine (masklaw4_timed.calls  true _ A2.out).mono ?_
     rintro e w30 ⟨rfl, hb⟩
     refine ⟨_, rfl, ?_⟩
     have n0_ := Aside0.mk (bb BK397.out hb)
     have n1_ := Aside0.mk (below_step bl hb)
     clear BK397
     clear HB
     have BK397 := n0_
     have HB := n1_
     clear n0_ n1_
     (try clear hb)
     (try clear hb2)
     (try clear hk)
     (try clear hi)
     refine hK.out _ _ ⟨(blk_cell BK397.out 0).trans rfl, (blk_cell BK397.out 1).trans rfl, (blk_cell BK397.out 2).trans rfl, (blk_cell BK397.out 3).trans rfl, (blk_cell BK397.out 4).trans rfl, (blk_cell BK397.out 5).trans rfl, (blk_cell BK397.out 6).trans rfl, (blk_cell BK397.out 7).trans rfl, (blk_cell BK397.out 8).trans rfl, (blk_cell BK397.out 9).trans rfl, (blk_cell BK397.out 10).trans rfl, (blk_cell BK397.out 11).trans rfl, (blk_cell BK397.out 12).trans rfl, (blk_cell BK397.out 13).trans rfl, (blk_cell BK397.out 14).trans rfl⟩ (fun hHeld => ?_)
     clear hK K
     refine norm_ (a' := ?_) ?_ ?_
     rotate_left; focus (show Act.put _ (some 3) _ = _; simp only [Act.put, z1, z2, z3, i64_w, i32_w]; rfl)
     refine pure_ (i := 1) (N := some 4) (v := ?_) (a' := ?_) (zb 2 31) rfl rfl (any_of HT_.out (by kernel_rfl)) (fun _ _ _ h => h) (Or.inl ⟨by rfl, ?_⟩) ?_ ?_
     rotate_left; focus (intro w'; go_simp; with_reducible rfl)
     rotate_left; focus (simp only [Act.put, z1, z2, z3, i64_w, i32_w]; rfl)
     refine take_ (i := 2) (N := some 5) (v := ?_) (a' := ?_) (zb 3 30) rfl rfl (take_ofW HT_.out HW_.out (by kernel_rfl)) (fun _ _ _ h => h) (Or.inl ⟨by rfl, ?_⟩) hHeld ?_ ?_
     rotate_left
     · rintro w' ⟨s0, s1, s2, s3, s4, s5, s6, s7, s8, s9, s10, s11, s12, s13, s14⟩
       go_simp
       with_reducible rfl
     rotate_left; focus (simp only [Act.put, z1, z2, z3, i64_w, i32_w]; rfl)
     refine take_ (i := 4) (N := some 7) (v := ?_) (a' := ?_) #[true,true,true,false,true,false,false,false,false,false,false,false,false,false,false,false,false,false,false,false,false,false,false,false,false,false,false,false,false,false,false,false,false] rfl rfl (take_ofW HT_.out HW_.out (by kernel_rfl)) (fun _ _ _ h => h) (Or.inl ⟨by rfl, ?_⟩) hHeld ?_ ?_
     rotate_left
     · rintro w' ⟨s0, s1, s2, s3, s4, s5, s6, s7, s8, s9, s10, s11, s12, s13, s14⟩
       go_simp
       with_reducible rfl
     rotate_left; focus (simp only [Act.put, z1, z2, z3, i64_w, i32_w]; rfl)
     refine one_ (i := 3) (N := some 6) (zb 5 28) rfl rfl (one_of HT_.out (by kernel_rfl)) (by decide) (fun K hK => ?_)
     refine goes_ Tryd.func5 (by kernel_rfl) rfl #[.agg #[.slice A0_0 l0_0.length c0_0, .slice A0_1 l0_1.length c0_1, .slice A0_2 l0_2.length c0_2, .slice A0_3 l0_3.length c0_3, .slice A0_4 l0_4.length c0_4, .slice A0_5 l0_5.length c0_5, .slice A0_6 l0_6.length c0_6, .slice A0_7 l0_7.length c0_7, .slice A0_8 l0_8.length c0_8, .slice A0_9 l0_9.length c0_9, .slice A0_10 l0_10.length c0_10, .int .i64 a0_11, .slice A0_12 l0_12.length c0_12, .slice A0_13 l0_13.length c0_13, .slice A0_14 l0_14.length c0_14]] (by rfl) rfl rfl (by (try simp only [List.map_toArray, List.map_cons, List.map_nil]); first | done | rfl | (simp only [List.length_drop, List.length_take]; rfl)) ?_
     with_reducible refine (timing_Check.calls k _ _ l0_0 _ _ l0_1 _ _ l0_2 _ _ l0_3 _ _ l0_4 _ _ l0_5 _ _ l0_6 _ _ l0_7 _ _ l0_8 _ _ l0_9 _ _ l0_10 a0_11 _ _ l0_12 _ _ l0_13 _ _ l0_14 t399 _ ?side1 ?side2 ?side3 ?side4 ?side5 ?side6 ?side7 ?side8 ?side9 ?side10 ?side11 ?side12 ?side13 ?side14 ?side15 ?side16 ?side17 ?side18 ?side19 ?side20 ?side21 ?side22 ?side23 ?side24 ?side25 ?side26 ?side27 ?side28 A4.out ?sideT).mono ?_
     (case sideT => exact HTA.out _ (by repeat (first | exact HB.out | (with_reducible refine below_alloc ?_ _) | (with_reducible refine pw_below_drewN ?_ _) | (with_reducible refine below_drew1 ?_))))
     (case side1 => exact kc (Kd.C_below HR0_0.out HB.out))
     (case side2 => exact HC0_0.out)
     (case side3 => exact kc (Kd.C_below HR0_1.out HB.out))
     (case side4 => exact HC0_1.out)
     (case side5 => exact kc (Kd.C_below HR0_2.out HB.out))
     (case side6 => exact HC0_2.out)
     (case side7 => exact kc (Kd.C_below HR0_3.out HB.out))
     (case side8 => exact HC0_3.out)
     (case side9 => exact kc (Kd.C_below HR0_4.out HB.out))
     (case side10 => exact HC0_4.out)
     (case side11 => exact kc (Kd.C_below HR0_5.out HB.out))
     (case side12 => exact HC0_5.out)
     (case side13 => exact kc (Kd.C_below HR0_6.out HB.out))
     (case side14 => exact HC0_6.out)
     (case side15 => exact kc (Kd.C_below HR0_7.out HB.out))
     (case side16 => exact HC0_7.out)
     (case side17 => exact kc (Kd.C_below HR0_8.out HB.out))
     (case side18 => exact HC0_8.out)
     (case side19 => exact kc (Kd.C_below HR0_9.out HB.out))
     (case side20 => exact HC0_9.out)
     (case side21 => exact kc (Kd.C_below HR0_10.out HB.out))
     (case side22 => exact HC0_10.out)
     (case side23 => exact kc (Kd.C_below HR0_12.out HB.out))
     (case side24 => exact HC0_12.out)
     (case side25 => exact kc (Kd.C_below HR0_13.out HB.out))
     (case side26 => exact HC0_13.out)
     (case side27 => exact kc (Kd.C_below HR0_14.out HB.out))
     (case side28 => exact HC0_14.out)
     rintro e w31 ⟨rfl, hb⟩
     refine ⟨_, rfl, ?_⟩
     have n0_ := Aside0.mk (bb BK397.out hb)
     have n1_ := Aside0.mk (below_step bl hb)
     clear BK397
     clear HB
     have BK397 := n0_
     have HB := n1_
     clear n0_ n1_
     (try clear hb)
     (try clear hb2)
     (try clear hk)
     (try clear hi)
     refine hK.out _ _ ⟨(blk_cell BK397.out 0).trans rfl, (blk_cell BK397.out 1).trans rfl, (blk_cell BK397.out 2).trans rfl, (blk_cell BK397.out 3).trans rfl, (blk_cell BK397.out 4).trans rfl, (blk_cell BK397.out 5).trans rfl, (blk_cell BK397.out 6).trans rfl, (blk_cell BK397.out 7).trans rfl, (blk_cell BK397.out 8).trans rfl, (blk_cell BK397.out 9).trans rfl, (blk_cell BK397.out 10).trans rfl, (blk_cell BK397.out 11).trans rfl, (blk_cell BK397.out 12).trans rfl, (blk_cell BK397.out 13).trans rfl, (blk_cell BK397.out 14).trans rfl⟩ (fun hHeld => ?_)
     clear hK K
     refine norm_ (a' := ?_) ?_ ?_
     rotate_left; focus (show Act.put _ (some 6) _ = _; simp only [Act.put, z1, z2, z3, i64_w, i32_w]; rfl)
     refine one_ (i := 5) (N := some 8) (zb 6 27) rfl rfl (one_of HT_.out (by kernel_rfl)) (by decide) (fun K hK => ?_)
     refine goes_ Tryd.func6 (by kernel_rfl) rfl #[.agg #[.slice A0_0 l0_0.length c0_0, .slice A0_1 l0_1.length c0_1, .slice A0_2 l0_2.length c0_2, .slice A0_3 l0_3.length c0_3, .slice A0_4 l0_4.length c0_4, .slice A0_5 l0_5.length c0_5, .slice A0_6 l0_6.length c0_6, .slice A0_7 l0_7.length c0_7, .slice A0_8 l0_8.length c0_8, .slice A0_9 l0_9.length c0_9, .slice A0_10 l0_10.length c0_10, .int .i64 a0_11, .slice A0_12 l0_12.length c0_12, .slice A0_13 l0_13.length c0_13, .slice A0_14 l0_14.length c0_14]] (by rfl) rfl rfl (by (try simp only [List.map_toArray, List.map_cons, List.map_nil]); first | done | rfl | (simp only [List.length_drop, List.length_take]; rfl)) ?_
     with_reducible refine (maskref4_JobFault.calls k _ _ l0_0 _ _ l0_1 _ _ l0_2 _ _ l0_3 _ _ l0_4 _ _ l0_5 _ _ l0_6 _ _ l0_7 _ _ l0_8 _ _ l0_9 _ _ l0_10 a0_11 _ _ l0_12 _ _ l0_13 _ _ l0_14 t400 _ ?side1 ?side2 ?side3 ?side4 ?side5 ?side6 ?side7 ?side8 ?side9 ?side10 ?side11 ?side12 ?side13 ?side14 ?side15 ?side16 ?side17 ?side18 ?side19 ?side20 ?side21 ?side22 ?side23 ?side24 ?side25 ?side26 ?side27 ?side28 A5.out).mono ?_
     (case side1 => exact kc (Kd.C_below HR0_0.out HB.out))
     (case side2 => exact HC0_0.out)
     (case side3 => exact kc (Kd.C_below HR0_1.out HB.out))
     (case side4 => exact HC0_1.out)
     (case side5 => exact kc (Kd.C_below HR0_2.out HB.out))
     (case side6 => exact HC0_2.out)
     (case side7 => exact kc (Kd.C_below HR0_3.out HB.out))
     (case side8 => exact HC0_3.out)
     (case side9 => exact kc (Kd.C_below HR0_4.out HB.out))
     (case side10 => exact HC0_4.out)
     (case side11 => exact kc (Kd.C_below HR0_5.out HB.out))
     (case side12 => exact HC0_5.out)
     (case side13 => exact kc (Kd.C_below HR0_6.out HB.out))
     (case side14 => exact HC0_6.out)
     (case side15 => exact kc (Kd.C_below HR0_7.out HB.out))
     (case side16 => exact HC0_7.out)
     (case side17 => exact kc (Kd.C_below HR0_8.out HB.out))
     (case side18 => exact HC0_8.out)
     (case side19 => exact kc (Kd.C_below HR0_9.out HB.out))
     (case side20 => exact HC0_9.out)
     (case side21 => exact kc (Kd.C_below HR0_10.out HB.out))
     (case side22 => exact HC0_10.out)
     (case side23 => exact kc (Kd.C_below HR0_12.out HB.out))
     (case side24 => exact HC0_12.out)
     (case side25 => exact kc (Kd.C_below HR0_13.out HB.out))
     (case side26 => exact HC0_13.out)
     (case side27 => exact kc (Kd.C_below HR0_14.out HB.out))
     (case side28 => exact HC0_14.out)
     rintro e w32 ⟨rfl, hb⟩
     refine ⟨_, rfl, ?_⟩
     have n0_ := Aside0.mk (bb BK397.out hb)
     have n1_ := Aside0.mk (below_step bl hb)
     clear BK397
     clear HB
     have BK397 := n0_
     have HB := n1_
     clear n0_ n1_
     (try clear hb)
     (try clear hb2)
     (try clear hk)
     (try clear hi)
     refine hK.out _ _ ⟨(blk_cell BK397.out 0).trans rfl, (blk_cell BK397.out 1).trans rfl, (blk_cell BK397.out 2).trans rfl, (blk_cell BK397.out 3).trans rfl, (blk_cell BK397.out 4).trans rfl, (blk_cell BK397.out 5).trans rfl, (blk_cell BK397.out 6).trans rfl, (blk_cell BK397.out 7).trans rfl, (blk_cell BK397.out 8).trans rfl, (blk_cell BK397.out 9).trans rfl, (blk_cell BK397.out 10).trans rfl, (blk_cell BK397.out 11).trans rfl, (blk_cell BK397.out 12).trans rfl, (blk_cell BK397.out 13).trans rfl, (blk_cell BK397.out 14).trans rfl⟩ (fun hHeld => ?_)
     clear hK K
     refine norm_ (a' := ?_) ?_ ?_
     rotate_left; focus (show Act.put _ (some 8) _ = _; simp only [Act.put, z1, z2, z3, i64_w, i32_w]; rfl)
     refine pure_ (i := 6) (N := some 9) (v := ?_) (a' := ?_) (zb 7 26) rfl rfl (any_of HT_.out (by kernel_rfl)) (fun _ _ _ h => h) (Or.inl ⟨by rfl, ?_⟩) ?_ ?_
     rotate_left; focus (intro w'; go_simp; with_reducible rfl)
     rotate_left; focus (simp only [Act.put, z1, z2, z3, i64_w, i32_w]; rfl)
     refine pure_ (i := 7) (N := some 10) (v := ?_) (a' := ?_) (zb 8 25) rfl rfl (any_of HT_.out (by kernel_rfl)) (fun _ _ _ h => h) (Or.inl ⟨by rfl, ?_⟩) ?_ ?_
     rotate_left; focus (intro w'; go_simp; with_reducible rfl)
     rotate_left; focus (simp only [Act.put, z1, z2, z3, i64_w, i32_w]; rfl)
     refine pure_ (i := 8) (N := some 11) (v := ?_) (a' := ?_) (zb 9 24) rfl rfl (any_of HT_.out (by kernel_rfl)) (fun _ _ _ h => h) (Or.inl ⟨by rfl, ?_⟩) ?_ ?_
     rotate_left; focus (intro w'; go_simp; with_reducible rfl)
     rotate_left; focus (simp only [Act.put, z1, z2, z3, i64_w, i32_w]; rfl)
     refine pure_ (i := 9) (N := some 12) (v := undef) (a' := ?_) (zb 10 23) rfl rfl (any_of HT_.out (by kernel_rfl)) (fun _ _ _ h => h) (Or.inr ⟨by rfl, rfl⟩) ?_ ?_
     rotate_left; focus (simp only [Act.put, z1, z2, z3, i64_w, i32_w]; rfl)
     refine pure_ (i := 10) (N := some 13) (v := undef) (a' := ?_) (zb 11 22) rfl rfl (any_of HT_.out (by kernel_rfl)) (fun _ _ _ h => h) (Or.inr ⟨by rfl, rfl⟩) ?_ ?_
     rotate_left; focus (simp only [Act.put, z1, z2, z3, i64_w, i32_w]; rfl)
     refine pure_ (i := 11) (N := some 14) (v := undef) (a' := ?_) (zb 12 21) rfl rfl (any_of HT_.out (by kernel_rfl)) (fun _ _ _ h => h) (Or.inr ⟨by rfl, rfl⟩) ?_ ?_
     rotate_left; focus (simp only [Act.put, z1, z2, z3, i64_w, i32_w]; rfl)
     refine pure_ (i := 12) (N := some 15) (v := undef) (a' := ?_) (zb 13 20) rfl rfl (any_of HT_.out (by kernel_rfl)) (fun _ _ _ h => h) (Or.inr ⟨by rfl, rfl⟩) ?_ ?_
     rotate_left; focus (simp only [Act.put, z1, z2, z3, i64_w, i32_w]; rfl)
     refine pure_ (i := 13) (N := some 16) (v := undef) (a' := ?_) (zb 14 19) rfl rfl (any_of HT_.out (by kernel_rfl)) (fun _ _ _ h => h) (Or.inr ⟨by rfl, rfl⟩) ?_ ?_
     rotate_left; focus (simp only [Act.put, z1, z2, z3, i64_w, i32_w]; rfl)
     refine pure_ (i := 14) (N := some 17) (v := undef) (a' := ?_) (zb 15 18) rfl rfl (any_of HT_.out (by kernel_rfl)) (fun _ _ _ h => h) (Or.inr ⟨by rfl, rfl⟩) ?_ ?_
     rotate_left; focus (simp only [Act.put, z1, z2, z3, i64_w, i32_w]; rfl)
     refine pure_ (i := 15) (N := some 18) (v := undef) (a' := ?_) (zb 16 17) rfl rfl (any_of HT_.out (by kernel_rfl)) (fun _ _ _ h => h) (Or.inr ⟨by rfl, rfl⟩) ?_ ?_
     rotate_left; focus (simp only [Act.put, z1, z2, z3, i64_w, i32_w]; rfl)
     refine pure_ (i := 16) (N := some 19) (v := undef) (a' := ?_) (zb 17 16) rfl rfl (any_of HT_.out (by kernel_rfl)) (fun _ _ _ h => h) (Or.inr ⟨by rfl, rfl⟩) ?_ ?_
     rotate_left; focus (simp only [Act.put, z1, z2, z3, i64_w, i32_w]; rfl)
     refine pure_ (i := 17) (N := some 20) (v := undef) (a' := ?_) (zb 18 15) rfl rfl (any_of HT_.out (by kernel_rfl)) (fun _ _ _ h => h) (Or.inr ⟨by rfl, rfl⟩) ?_ ?_
     rotate_left; focus (simp only [Act.put, z1, z2, z3, i64_w, i32_w]; rfl)
     refine pure_ (i := 18) (N := some 21) (v := undef) (a' := ?_) (zb 19 14) rfl rfl (any_of HT_.out (by kernel_rfl)) (fun _ _ _ h => h) (Or.inr ⟨by rfl, rfl⟩) ?_ ?_
     rotate_left; focus (simp only [Act.put, z1, z2, z3, i64_w, i32_w]; rfl)
     refine pure_ (i := 19) (N := some 22) (v := undef) (a' := ?_) (zb 20 13) rfl rfl (any_of HT_.out (by kernel_rfl)) (fun _ _ _ h => h) (Or.inr ⟨by rfl, rfl⟩) ?_ ?_
     rotate_left; focus (simp only [Act.put, z1, z2, z3, i64_w, i32_w]; rfl)
     refine pure_ (i := 20) (N := some 23) (v := undef) (a' := ?_) (zb 21 12) rfl rfl (any_of HT_.out (by kernel_rfl)) (fun _ _ _ h => h) (Or.inr ⟨by rfl, rfl⟩) ?_ ?_
     rotate_left; focus (simp only [Act.put, z1, z2, z3, i64_w, i32_w]; rfl)
     refine pure_ (i := 21) (N := some 24) (v := undef) (a' := ?_) (zb 22 11) rfl rfl (any_of HT_.out (by kernel_rfl)) (fun _ _ _ h => h) (Or.inr ⟨by rfl, rfl⟩) ?_ ?_
     rotate_left; focus (simp only [Act.put, z1, z2, z3, i64_w, i32_w]; rfl)
     refine pure_ (i := 22) (N := some 25) (v := ?_) (a' := ?_) (zb 23 10) rfl rfl (any_of HT_.out (by kernel_rfl)) (fun _ _ _ h => h) (Or.inl ⟨by rfl, ?_⟩) ?_ ?_
     rotate_left; focus (intro w'; go_simp; with_reducible rfl)
     rotate_left; focus (simp only [Act.put, z1, z2, z3, i64_w, i32_w]; rfl)
     refine pure_ (i := 23) (N := some 26) (v := ?_) (a' := ?_) (zb 24 9) rfl rfl (any_of HT_.out (by kernel_rfl)) (fun _ _ _ h => h) (Or.inl ⟨by rfl, ?_⟩) ?_ ?_
     rotate_left; focus (intro w'; go_simp; with_reducible rfl)
     rotate_left; focus (simp only [Act.put, z1, z2, z3, i64_w, i32_w]; rfl)
     refine pure_ (i := 24) (N := some 27) (v := undef) (a' := ?_) (zb 25 8) rfl rfl (any_of HT_.out (by kernel_rfl)) (fun _ _ _ h => h) (Or.inr ⟨by rfl, rfl⟩) ?_ ?_
     rotate_left; focus (simp only [Act.put, z1, z2, z3, i64_w, i32_w]; rfl)
     refine pure_ (i := 25) (N := some 28) (v := undef) (a' := ?_) (zb 26 7) rfl rfl (any_of HT_.out (by kernel_rfl)) (fun _ _ _ h => h) (Or.inr ⟨by rfl, rfl⟩) ?_ ?_
     rotate_left; focus (simp only [Act.put, z1, z2, z3, i64_w, i32_w]; rfl)
     refine pure_ (i := 26) (N := some 29) (v := undef) (a' := ?_) (zb 27 6) rfl rfl (any_of HT_.out (by kernel_rfl)) (fun _ _ _ h => h) (Or.inr ⟨by rfl, rfl⟩) ?_ ?_
     rotate_left; focus (simp only [Act.put, z1, z2, z3, i64_w, i32_w]; rfl)
     refine pure_ (i := 27) (N := some 30) (v := undef) (a' := ?_) (zb 28 5) rfl rfl (any_of HT_.out (by kernel_rfl)) (fun _ _ _ h => h) (Or.inr ⟨by rfl, rfl⟩) ?_ ?_
     rotate_left; focus (simp only [Act.put, z1, z2, z3, i64_w, i32_w]; rfl)
     refine pure_ (i := 28) (N := some 31) (v := undef) (a' := ?_) (zb 29 4) rfl rfl (any_of HT_.out (by kernel_rfl)) (fun _ _ _ h => h) (Or.inr ⟨by rfl, rfl⟩) ?_ ?_
     rotate_left; focus (simp only [Act.put, z1, z2, z3, i64_w, i32_w]; rfl)
     refine pure_ (i := 29) (N := some 32) (v := undef) (a' := ?_) (zb 30 3) rfl rfl (any_of HT_.out (by kernel_rfl)) (fun _ _ _ h => h) (Or.inr ⟨by rfl, rfl⟩) ?_ ?_
     rotate_left; focus (simp only [Act.put, z1, z2, z3, i64_w, i32_w]; rfl)
     refine pure_ (i := 30) (N := some 33) (v := undef) (a' := ?_) (zb 31 2) rfl rfl (any_of HT_.out (by kernel_rfl)) (fun _ _ _ h => h) (Or.inr ⟨by rfl, rfl⟩) ?_ ?_
     rotate_left; focus (simp only [Act.put, z1, z2, z3, i64_w, i32_w]; rfl)
     refine pure_ (i := 31) (N := some 34) (v := ?_) (a' := ?_) (zb 32 1) rfl rfl (any_of HT_.out (by kernel_rfl)) (fun _ _ _ h => h) (Or.inl ⟨by rfl, ?_⟩) ?_ ?_
     rotate_left; focus (intro w'; go_simp; with_reducible rfl)
     rotate_left; focus (simp only [Act.put, z1, z2, z3, i64_w, i32_w]; rfl)
     refine pure_ (i := 32) (N := some 2) (v := ?_) (a' := ?_) (zb 33 0) rfl rfl (any_of HT_.out (by kernel_rfl)) (fun _ _ _ h => h) (Or.inl ⟨by rfl, ?_⟩) ?_ ?_
     rotate_left; focus (intro w'; go_simp; with_reducible rfl)
     rotate_left; focus (simp only [Act.put, z1, z2, z3, i64_w, i32_w]; rfl)
     refine done_ (done_of HT_.out (by kernel_rfl)) ?_
     try go_wp2
     go_ret
     exact ⟨by first | rfl | (simp [errW_none, errW_some] <;> rfl) | (simp [*, errW_none, errW_some] <;> rfl), bl⟩
 · replace c3 := Bool.eq_false_iff.mpr c3
   subst c3
   have H1 : (some false) = some r := by rw [if_neg (show ¬ (false = true) by decide)] at H; exact H
   clear H
   have H := H1
   clear H1
   obtain rfl := Option.some.inj H
   go_enter Tryd.func3, Tryd.ntmps3
   try go_wp2_with ((with_reducible refine gate_dst (N := 1) rfl ?_); (try (refine gate_guard (by rfl) ?_; dsimp only)); refine box_event ?hg (N := 1) ?hd (cs := #[.slice A0_0 l0_0.length c0_0, .slice A0_1 l0_1.length c0_1, .slice A0_2 l0_2.length c0_2, .slice A0_3 l0_3.length c0_3, .slice A0_4 l0_4.length c0_4, .slice A0_5 l0_5.length c0_5, .slice A0_6 l0_6.length c0_6, .slice A0_7 l0_7.length c0_7, .slice A0_8 l0_8.length c0_8, .slice A0_9 l0_9.length c0_9, .slice A0_10 l0_10.length c0_10, .int .i64 a0_11, .slice A0_12 l0_12.length c0_12, .slice A0_13 l0_13.length c0_13, .slice A0_14 l0_14.length c0_14]) (t := 39) ?hr ?_; (case hd => rfl); (case hg => rfl); (case hr => first | (go_simp; done) | (go_simp; rfl)); intro gb397 hg w33 hbox hb; have BK397 := Aside0.mk (hbox); have GW397 := Aside0.mk (ge (w := w) hg); have GE397 := Aside0.mk (ge (w := w) hg); replace HB := Aside0.mk (below_step bl hb); clear hb hbox hg)
   have n0_ := Aside0.mk (blk_drew BK397.out)
   have n1_ := Aside0.mk (below_drew1 HB.out)
   clear BK397
   clear HB
   have BK397 := n0_
   have HB := n1_
   clear n0_ n1_
   refine start_ (n := 33) (S := fun w' => True) (ds := []) (zb 0 33) (by kernel_rfl) rfl rfl trivial (fun hHeld => ?_); refine with_tabW masklaw4_TimingChecks.tab1 masklaw4_TimingChecks.bits1 (fun HT_ HW_ => ?_)
   generalize w33.drew = w34 at BK397 HB hHeld ⊢
   refine one_ (i := 0) (N := some 3) (zb 1 32) rfl rfl (one_of HT_.out (by kernel_rfl)) (by decide) (fun K hK => ?_)
   refine goes_ Tryd.func4 (by kernel_rfl) rfl #[] (by rfl) rfl rfl (by (try simp only [List.map_toArray, List.map_cons, List.map_nil]); first | done | rfl | (simp only [List.length_drop, List.length_take]; rfl)) ?_
   with_reducible refine (masklaw4_timed.calls  false _ A2.out).mono ?_
   rintro e w35 ⟨rfl, hb⟩
   refine ⟨_, rfl, ?_⟩
   have n0_ := Aside0.mk (bb BK397.out hb)
   have n1_ := Aside0.mk (below_step bl hb)
   clear BK397
   clear HB
   have BK397 := n0_
   have HB := n1_
   clear n0_ n1_
   (try clear hb)
   (try clear hb2)
   (try clear hk)
   (try clear hi)
   refine hK.out _ _ trivial (fun hHeld => ?_)
   clear hK K
   refine norm_ (a' := ?_) ?_ ?_
   rotate_left; focus (show Act.put _ (some 3) _ = _; simp only [Act.put, z1, z2, z3, i64_w, i32_w]; rfl)
   refine pure_ (i := 1) (N := some 4) (v := ?_) (a' := ?_) (zb 2 31) rfl rfl (any_of HT_.out (by kernel_rfl)) (fun _ _ _ h => h) (Or.inl ⟨by rfl, ?_⟩) ?_ ?_
   rotate_left; focus (intro w'; go_simp; with_reducible rfl)
   rotate_left; focus (simp only [Act.put, z1, z2, z3, i64_w, i32_w]; rfl)
   refine pure_ (i := 2) (N := some 5) (v := undef) (a' := ?_) (zb 3 30) rfl rfl (any_of HT_.out (by kernel_rfl)) (fun _ _ _ h => h) (Or.inr ⟨by rfl, rfl⟩) ?_ ?_
   rotate_left; focus (simp only [Act.put, z1, z2, z3, i64_w, i32_w]; rfl)
   refine pure_ (i := 3) (N := some 6) (v := undef) (a' := ?_) (zb 4 29) rfl rfl (any_of HT_.out (by kernel_rfl)) (fun _ _ _ h => h) (Or.inr ⟨by rfl, rfl⟩) ?_ ?_
   rotate_left; focus (simp only [Act.put, z1, z2, z3, i64_w, i32_w]; rfl)
   refine pure_ (i := 4) (N := some 7) (v := undef) (a' := ?_) (zb 5 28) rfl rfl (any_of HT_.out (by kernel_rfl)) (fun _ _ _ h => h) (Or.inr ⟨by rfl, rfl⟩) ?_ ?_
   rotate_left; focus (simp only [Act.put, z1, z2, z3, i64_w, i32_w]; rfl)
   refine pure_ (i := 5) (N := some 8) (v := undef) (a' := ?_) (zb 6 27) rfl rfl (any_of HT_.out (by kernel_rfl)) (fun _ _ _ h => h) (Or.inr ⟨by rfl, rfl⟩) ?_ ?_
   rotate_left; focus (simp only [Act.put, z1, z2, z3, i64_w, i32_w]; rfl)
   refine pure_ (i := 6) (N := some 9) (v := undef) (a' := ?_) (zb 7 26) rfl rfl (any_of HT_.out (by kernel_rfl)) (fun _ _ _ h => h) (Or.inr ⟨by rfl, rfl⟩) ?_ ?_
   rotate_left; focus (simp only [Act.put, z1, z2, z3, i64_w, i32_w]; rfl)
   refine pure_ (i := 7) (N := some 10) (v := ?_) (a' := ?_) (zb 8 25) rfl rfl (any_of HT_.out (by kernel_rfl)) (fun _ _ _ h => h) (Or.inl ⟨by rfl, ?_⟩) ?_ ?_
   rotate_left; focus (intro w'; go_simp; with_reducible rfl)
   rotate_left; focus (simp only [Act.put, z1, z2, z3, i64_w, i32_w]; rfl)
   refine pure_ (i := 8) (N := some 11) (v := ?_) (a' := ?_) (zb 9 24) rfl rfl (any_of HT_.out (by kernel_rfl)) (fun _ _ _ h => h) (Or.inl ⟨by rfl, ?_⟩) ?_ ?_
   rotate_left; focus (intro w'; go_simp; with_reducible rfl)
   rotate_left; focus (simp only [Act.put, z1, z2, z3, i64_w, i32_w]; rfl)
   refine pure_ (i := 9) (N := some 12) (v := undef) (a' := ?_) (zb 10 23) rfl rfl (any_of HT_.out (by kernel_rfl)) (fun _ _ _ h => h) (Or.inr ⟨by rfl, rfl⟩) ?_ ?_
   rotate_left; focus (simp only [Act.put, z1, z2, z3, i64_w, i32_w]; rfl)
   refine pure_ (i := 10) (N := some 13) (v := undef) (a' := ?_) (zb 11 22) rfl rfl (any_of HT_.out (by kernel_rfl)) (fun _ _ _ h => h) (Or.inr ⟨by rfl, rfl⟩) ?_ ?_
   rotate_left; focus (simp only [Act.put, z1, z2, z3, i64_w, i32_w]; rfl)
   refine pure_ (i := 11) (N := some 14) (v := undef) (a' := ?_) (zb 12 21) rfl rfl (any_of HT_.out (by kernel_rfl)) (fun _ _ _ h => h) (Or.inr ⟨by rfl, rfl⟩) ?_ ?_
   rotate_left; focus (simp only [Act.put, z1, z2, z3, i64_w, i32_w]; rfl)
   refine pure_ (i := 12) (N := some 15) (v := undef) (a' := ?_) (zb 13 20) rfl rfl (any_of HT_.out (by kernel_rfl)) (fun _ _ _ h => h) (Or.inr ⟨by rfl, rfl⟩) ?_ ?_
   rotate_left; focus (simp only [Act.put, z1, z2, z3, i64_w, i32_w]; rfl)
   refine pure_ (i := 13) (N := some 16) (v := undef) (a' := ?_) (zb 14 19) rfl rfl (any_of HT_.out (by kernel_rfl)) (fun _ _ _ h => h) (Or.inr ⟨by rfl, rfl⟩) ?_ ?_
   rotate_left; focus (simp only [Act.put, z1, z2, z3, i64_w, i32_w]; rfl)
   refine pure_ (i := 14) (N := some 17) (v := undef) (a' := ?_) (zb 15 18) rfl rfl (any_of HT_.out (by kernel_rfl)) (fun _ _ _ h => h) (Or.inr ⟨by rfl, rfl⟩) ?_ ?_
   rotate_left; focus (simp only [Act.put, z1, z2, z3, i64_w, i32_w]; rfl)
   refine pure_ (i := 15) (N := some 18) (v := undef) (a' := ?_) (zb 16 17) rfl rfl (any_of HT_.out (by kernel_rfl)) (fun _ _ _ h => h) (Or.inr ⟨by rfl, rfl⟩) ?_ ?_
   rotate_left; focus (simp only [Act.put, z1, z2, z3, i64_w, i32_w]; rfl)
   refine pure_ (i := 16) (N := some 19) (v := undef) (a' := ?_) (zb 17 16) rfl rfl (any_of HT_.out (by kernel_rfl)) (fun _ _ _ h => h) (Or.inr ⟨by rfl, rfl⟩) ?_ ?_
   rotate_left; focus (simp only [Act.put, z1, z2, z3, i64_w, i32_w]; rfl)
   refine pure_ (i := 17) (N := some 20) (v := undef) (a' := ?_) (zb 18 15) rfl rfl (any_of HT_.out (by kernel_rfl)) (fun _ _ _ h => h) (Or.inr ⟨by rfl, rfl⟩) ?_ ?_
   rotate_left; focus (simp only [Act.put, z1, z2, z3, i64_w, i32_w]; rfl)
   refine pure_ (i := 18) (N := some 21) (v := undef) (a' := ?_) (zb 19 14) rfl rfl (any_of HT_.out (by kernel_rfl)) (fun _ _ _ h => h) (Or.inr ⟨by rfl, rfl⟩) ?_ ?_
   rotate_left; focus (simp only [Act.put, z1, z2, z3, i64_w, i32_w]; rfl)
   refine pure_ (i := 19) (N := some 22) (v := undef) (a' := ?_) (zb 20 13) rfl rfl (any_of HT_.out (by kernel_rfl)) (fun _ _ _ h => h) (Or.inr ⟨by rfl, rfl⟩) ?_ ?_
   rotate_left; focus (simp only [Act.put, z1, z2, z3, i64_w, i32_w]; rfl)
   refine pure_ (i := 20) (N := some 23) (v := undef) (a' := ?_) (zb 21 12) rfl rfl (any_of HT_.out (by kernel_rfl)) (fun _ _ _ h => h) (Or.inr ⟨by rfl, rfl⟩) ?_ ?_
   rotate_left; focus (simp only [Act.put, z1, z2, z3, i64_w, i32_w]; rfl)
   refine pure_ (i := 21) (N := some 24) (v := undef) (a' := ?_) (zb 22 11) rfl rfl (any_of HT_.out (by kernel_rfl)) (fun _ _ _ h => h) (Or.inr ⟨by rfl, rfl⟩) ?_ ?_
   rotate_left; focus (simp only [Act.put, z1, z2, z3, i64_w, i32_w]; rfl)
   refine pure_ (i := 22) (N := some 25) (v := ?_) (a' := ?_) (zb 23 10) rfl rfl (any_of HT_.out (by kernel_rfl)) (fun _ _ _ h => h) (Or.inl ⟨by rfl, ?_⟩) ?_ ?_
   rotate_left; focus (intro w'; go_simp; with_reducible rfl)
   rotate_left; focus (simp only [Act.put, z1, z2, z3, i64_w, i32_w]; rfl)
   refine pure_ (i := 23) (N := some 26) (v := ?_) (a' := ?_) (zb 24 9) rfl rfl (any_of HT_.out (by kernel_rfl)) (fun _ _ _ h => h) (Or.inl ⟨by rfl, ?_⟩) ?_ ?_
   rotate_left; focus (intro w'; go_simp; with_reducible rfl)
   rotate_left; focus (simp only [Act.put, z1, z2, z3, i64_w, i32_w]; rfl)
   refine pure_ (i := 24) (N := some 27) (v := undef) (a' := ?_) (zb 25 8) rfl rfl (any_of HT_.out (by kernel_rfl)) (fun _ _ _ h => h) (Or.inr ⟨by rfl, rfl⟩) ?_ ?_
   rotate_left; focus (simp only [Act.put, z1, z2, z3, i64_w, i32_w]; rfl)
   refine pure_ (i := 25) (N := some 28) (v := undef) (a' := ?_) (zb 26 7) rfl rfl (any_of HT_.out (by kernel_rfl)) (fun _ _ _ h => h) (Or.inr ⟨by rfl, rfl⟩) ?_ ?_
   rotate_left; focus (simp only [Act.put, z1, z2, z3, i64_w, i32_w]; rfl)
   refine pure_ (i := 26) (N := some 29) (v := undef) (a' := ?_) (zb 27 6) rfl rfl (any_of HT_.out (by kernel_rfl)) (fun _ _ _ h => h) (Or.inr ⟨by rfl, rfl⟩) ?_ ?_
   rotate_left; focus (simp only [Act.put, z1, z2, z3, i64_w, i32_w]; rfl)
   refine pure_ (i := 27) (N := some 30) (v := undef) (a' := ?_) (zb 28 5) rfl rfl (any_of HT_.out (by kernel_rfl)) (fun _ _ _ h => h) (Or.inr ⟨by rfl, rfl⟩) ?_ ?_
   rotate_left; focus (simp only [Act.put, z1, z2, z3, i64_w, i32_w]; rfl)
   refine pure_ (i := 28) (N := some 31) (v := undef) (a' := ?_) (zb 29 4) rfl rfl (any_of HT_.out (by kernel_rfl)) (fun _ _ _ h => h) (Or.inr ⟨by rfl, rfl⟩) ?_ ?_
   rotate_left; focus (simp only [Act.put, z1, z2, z3, i64_w, i32_w]; rfl)
   refine pure_ (i := 29) (N := some 32) (v := undef) (a' := ?_) (zb 30 3) rfl rfl (any_of HT_.out (by kernel_rfl)) (fun _ _ _ h => h) (Or.inr ⟨by rfl, rfl⟩) ?_ ?_
   rotate_left; focus (simp only [Act.put, z1, z2, z3, i64_w, i32_w]; rfl)
   refine pure_ (i := 30) (N := some 33) (v := undef) (a' := ?_) (zb 31 2) rfl rfl (any_of HT_.out (by kernel_rfl)) (fun _ _ _ h => h) (Or.inr ⟨by rfl, rfl⟩) ?_ ?_
   rotate_left; focus (simp only [Act.put, z1, z2, z3, i64_w, i32_w]; rfl)
   refine pure_ (i := 31) (N := some 34) (v := ?_) (a' := ?_) (zb 32 1) rfl rfl (any_of HT_.out (by kernel_rfl)) (fun _ _ _ h => h) (Or.inl ⟨by rfl, ?_⟩) ?_ ?_
   rotate_left; focus (intro w'; go_simp; with_reducible rfl)
   rotate_left; focus (simp only [Act.put, z1, z2, z3, i64_w, i32_w]; rfl)
   refine pure_ (i := 32) (N := some 2) (v := ?_) (a' := ?_) (zb 33 0) rfl rfl (any_of HT_.out (by kernel_rfl)) (fun _ _ _ h => h) (Or.inl ⟨by rfl, ?_⟩) ?_ ?_
   rotate_left; focus (intro w'; go_simp; with_reducible rfl)
   rotate_left; focus (simp only [Act.put, z1, z2, z3, i64_w, i32_w]; rfl)
   refine done_ (done_of HT_.out (by kernel_rfl)) ?_
   try go_wp2
   go_ret
   exact ⟨by first | rfl | (simp [errW_none, errW_some] <;> rfl) | (simp [*, errW_none, errW_some] <;> rfl), bl⟩

end Go.Proofs.YtlegjcagkmjfjaaDoor.PT
