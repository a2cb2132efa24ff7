-- PRINTED by print.py (a twelfth state) out of the translation. Not trusted: Lean checks it.
import Derived.Test.YtgajgnemfccnhaaPLx0
import Derived.Test.YtgajgnemfccnhaaPLx14
import Derived.Test.YtgajgnemfccnhaaPLx15
import Derived.Test.YtgajgnemfccnhaaPLx17
import Derived.Test.YtgajgnemfccnhaaPLx18
namespace Go.Proofs.Ytgajgnemfccnhaa.PL
open Go.RowKit Go.Proofs.YtgajgnemfccnhaaW.PrintWords Go.Proofs.YtgajgnemfccnhaaW.PrintLast Go.Proofs.YtgajgnemfccnhaaW.PrintMore
attribute [local go_sem] max2_int min2_int max_two min_two max_three min_three max_four min_four   -- for this text's walks alone
set_option linter.unusedVariables false
set_option linter.unusedSimpArgs false

/-! ### maskref4_portFault: function 52 -/
mutual
def maskref4_portFault.j0 : Nat → List (S96) → Int → Int → Bool → Int → Int → Int → List (S98) → List (S100) → List (S96) → ByteArray → Bool → Int → Int → Option (Int)
 | 0, _, _, _, _, _, _, _, _, _, _, _, _, _, _ => none
 | k + 1, x1, x7, x8, x28, x248000, x248001, x248002, x248003, x248004, x248005, x249000, x249001, x249002, x249003 => if x28 = true then (some 4) else ((maskref4_In.f x249002 0 (wrap64 (x7 - 1))).bind fun t252 => (if t252 = true then ((maskref4_In.f x249003 0 (wrap64 (x8 - 1))).bind fun t253 => (if t253 = true then (if x249002 = 0 then (maskref4_portFault.j1 k x1 false x248000 x248001 x248002 x248003 x248004 x248005 x249000 x249001 x249002 x249003) else (if x249002 = (wrap64 (x7 - 1)) then (maskref4_portFault.j1 k x1 false x248000 x248001 x248002 x248003 x248004 x248005 x249000 x249001 x249002 x249003) else (if x249003 = 0 then (maskref4_portFault.j1 k x1 false x248000 x248001 x248002 x248003 x248004 x248005 x249000 x249001 x249002 x249003) else (maskref4_portFault.j1 k x1 (x249003 != (wrap64 (x8 - 1))) x248000 x248001 x248002 x248003 x248004 x248005 x249000 x249001 x249002 x249003)))) else (maskref4_portFault.j1 k x1 true x248000 x248001 x248002 x248003 x248004 x248005 x249000 x249001 x249002 x249003))) else (maskref4_portFault.j1 k x1 true x248000 x248001 x248002 x248003 x248004 x248005 x249000 x249001 x249002 x249003)))
def maskref4_portFault.j1 : Nat → List (S96) → Bool → Int → Int → Int → List (S98) → List (S100) → List (S96) → ByteArray → Bool → Int → Int → Option (Int)
 | 0, _, _, _, _, _, _, _, _, _, _, _, _ => none
 | k + 1, x1, x66, x248000, x248001, x248002, x248003, x248004, x248005, x249000, x249001, x249002, x249003 => if x66 = true then (some 2) else (maskref4_portFault.l0 k x1 (x1.length : Int) 0 x248000 x248001 x248002 x248003 x248004 x248005 x249000 x249001 x249002 x249003)
def maskref4_portFault.l0 : Nat → List (S96) → Int → Int → Int → Int → Int → List (S98) → List (S100) → List (S96) → ByteArray → Bool → Int → Int → Option (Int)
 | 0, _, _, _, _, _, _, _, _, _, _, _, _, _ => none
 | k + 1, x67, x68, x69, x248000, x248001, x248002, x248003, x248004, x248005, x249000, x249001, x249002, x249003 => if x69 < x68 then (if 0 ≤ x69 then (if x69 < (x67.length : Int) then (if x249000.toList = ((rd_T96 x67 x69).f0).toList then (maskref4_portFault.j3 k x67 x68 x69 (x249001 == ((rd_T96 x67 x69).f1)) x248000 x248001 x248002 x248003 x248004 x248005 x249000 x249001 x249002 x249003 ((rd_T96 x67 x69).f0) ((rd_T96 x67 x69).f1) ((rd_T96 x67 x69).f2) ((rd_T96 x67 x69).f3)) else (maskref4_portFault.j3 k x67 x68 x69 false x248000 x248001 x248002 x248003 x248004 x248005 x249000 x249001 x249002 x249003 ((rd_T96 x67 x69).f0) ((rd_T96 x67 x69).f1) ((rd_T96 x67 x69).f2) ((rd_T96 x67 x69).f3))) else (none)) else (none)) else (maskref4_portFault.l1 k x248004 (x248004.length : Int) 0 x249000 x249001 x249002 x249003)
def maskref4_portFault.j3 : Nat → List (S96) → Int → Int → Bool → Int → Int → Int → List (S98) → List (S100) → List (S96) → ByteArray → Bool → Int → Int → ByteArray → Bool → Int → Int → Option (Int)
 | 0, _, _, _, _, _, _, _, _, _, _, _, _, _, _, _, _, _, _ => none
 | k + 1, x67, x68, x69, x84, x248000, x248001, x248002, x248003, x248004, x248005, x249000, x249001, x249002, x249003, x256000, x256001, x256002, x256003 => if x84 = true then (some 6) else ((maskref4_beside.f x249002 x256002).bind fun t256 => (if t256 = true then ((maskref4_beside.f x249003 x256003).bind fun t257 => (if t257 = true then (some 15) else (maskref4_portFault.l0 k x67 x68 (wrap64 (x69 + 1)) x248000 x248001 x248002 x248003 x248004 x248005 x249000 x249001 x249002 x249003))) else (maskref4_portFault.l0 k x67 x68 (wrap64 (x69 + 1)) x248000 x248001 x248002 x248003 x248004 x248005 x249000 x249001 x249002 x249003)))
def maskref4_portFault.l1 : Nat → List (S100) → Int → Int → ByteArray → Bool → Int → Int → Option (Int)
 | 0, _, _, _, _, _, _, _ => none
 | k + 1, x99, x100, x101, x249000, x249001, x249002, x249003 => if x101 < x100 then (if 0 ≤ x101 then (if x101 < (x99.length : Int) then (if ((rd_T100 x99 x101).f0) = 0 then ((maskref4_In.f x249002 ((rd_T100 x99 x101).f1) ((rd_T100 x99 x101).f3)).bind fun t260 => (if t260 = true then ((maskref4_In.f x249003 ((rd_T100 x99 x101).f2) ((rd_T100 x99 x101).f4)).bind fun t261 => (if t261 = true then (some 15) else (maskref4_portFault.l1 k x99 x100 (wrap64 (x101 + 1)) x249000 x249001 x249002 x249003))) else (maskref4_portFault.l1 k x99 x100 (wrap64 (x101 + 1)) x249000 x249001 x249002 x249003))) else (maskref4_portFault.l1 k x99 x100 (wrap64 (x101 + 1)) x249000 x249001 x249002 x249003)) else (none)) else (none)) else (some 0)
end
def maskref4_portFault.f (k : Nat) (a0_0 : Int) (a0_1 : Int) (a0_2 : Int) (l0_3 : List (S98)) (l0_4 : List (S100)) (l0_5 : List (S96)) (l1 : List (S96)) (a2_0 : ByteArray) (a2_1 : Bool) (a2_2 : Int) (a2_3 : Int) : Option (Int) := (maskref4_Tracks.f a0_0 a0_1 a0_2 l0_3 l0_4 l0_5).bind fun bt249 => ((maskref4_Printed.f k a2_0).bind fun t251 => (if t251 = true then (if a2_1 = true then (maskref4_portFault.j0 k l1 bt249.1 bt249.2 (a2_0.toList == ([] : List UInt8)) a0_0 a0_1 a0_2 l0_3 l0_4 l0_5 a2_0 a2_1 a2_2 a2_3) else (maskref4_portFault.j0 k l1 bt249.1 bt249.2 false a0_0 a0_1 a0_2 l0_3 l0_4 l0_5 a2_0 a2_1 a2_2 a2_3)) else (some 9)))
theorem maskref4_portFault.mono_l : ∀ k, (∀ y0 y1 y2 y3 y4 y5 y6 y7 y8 y9 y10 y11 y12 y13, LeO (maskref4_portFault.j0 k y0 y1 y2 y3 y4 y5 y6 y7 y8 y9 y10 y11 y12 y13) (maskref4_portFault.j0 (k + 1) y0 y1 y2 y3 y4 y5 y6 y7 y8 y9 y10 y11 y12 y13)) ∧ (∀ y0 y1 y2 y3 y4 y5 y6 y7 y8 y9 y10 y11, LeO (maskref4_portFault.j1 k y0 y1 y2 y3 y4 y5 y6 y7 y8 y9 y10 y11) (maskref4_portFault.j1 (k + 1) y0 y1 y2 y3 y4 y5 y6 y7 y8 y9 y10 y11)) ∧ (∀ y0 y1 y2 y3 y4 y5 y6 y7 y8 y9 y10 y11 y12, LeO (maskref4_portFault.l0 k y0 y1 y2 y3 y4 y5 y6 y7 y8 y9 y10 y11 y12) (maskref4_portFault.l0 (k + 1) y0 y1 y2 y3 y4 y5 y6 y7 y8 y9 y10 y11 y12)) ∧ (∀ y0 y1 y2 y3 y4 y5 y6 y7 y8 y9 y10 y11 y12 y13 y14 y15 y16 y17, LeO (maskref4_portFault.j3 k y0 y1 y2 y3 y4 y5 y6 y7 y8 y9 y10 y11 y12 y13 y14 y15 y16 y17) (maskref4_portFault.j3 (k + 1) y0 y1 y2 y3 y4 y5 y6 y7 y8 y9 y10 y11 y12 y13 y14 y15 y16 y17)) ∧ (∀ y0 y1 y2 y3 y4 y5 y6, LeO (maskref4_portFault.l1 k y0 y1 y2 y3 y4 y5 y6) (maskref4_portFault.l1 (k + 1) y0 y1 y2 y3 y4 y5 y6))
 | 0 => ⟨fun _ _ _ _ _ _ _ _ _ _ _ _ _ _ r h => by simp [maskref4_portFault.j0] at h, fun _ _ _ _ _ _ _ _ _ _ _ _ r h => by simp [maskref4_portFault.j1] at h, fun _ _ _ _ _ _ _ _ _ _ _ _ _ r h => by simp [maskref4_portFault.l0] at h, fun _ _ _ _ _ _ _ _ _ _ _ _ _ _ _ _ _ _ r h => by simp [maskref4_portFault.j3] at h, fun _ _ _ _ _ _ _ r h => by simp [maskref4_portFault.l1] at h⟩
 | k + 1 => by
  obtain ⟨ih0, ih1, ih2, ih3, ih4⟩ := maskref4_portFault.mono_l k
  refine ⟨?_, ?_, ?_, ?_, ?_⟩
  · intro y0 y1 y2 y3 y4 y5 y6 y7 y8 y9 y10 y11 y12 y13
    unfold maskref4_portFault.j0
    repeat' first
    | (with_reducible exact ih1 _ _ _ _ _ _ _ _ _ _ _ _)
    | (with_reducible exact LeO.refl _)
    | (with_reducible exact LeO.none _)
    | (with_reducible refine LeO.ite ?_ ?_)
    | (with_reducible refine LeO.bind ?_ (fun _ => ?_))
  · intro y0 y1 y2 y3 y4 y5 y6 y7 y8 y9 y10 y11
    unfold maskref4_portFault.j1
    repeat' first
    | (with_reducible exact ih2 _ _ _ _ _ _ _ _ _ _ _ _ _)
    | (with_reducible exact LeO.refl _)
    | (with_reducible exact LeO.none _)
    | (with_reducible refine LeO.ite ?_ ?_)
    | (with_reducible refine LeO.bind ?_ (fun _ => ?_))
  · intro y0 y1 y2 y3 y4 y5 y6 y7 y8 y9 y10 y11 y12
    unfold maskref4_portFault.l0
    repeat' first
    | (with_reducible exact ih3 _ _ _ _ _ _ _ _ _ _ _ _ _ _ _ _ _ _)
    | (with_reducible exact ih4 _ _ _ _ _ _ _)
    | (with_reducible exact LeO.refl _)
    | (with_reducible exact LeO.none _)
    | (with_reducible refine LeO.ite ?_ ?_)
    | (with_reducible refine LeO.bind ?_ (fun _ => ?_))
  · intro y0 y1 y2 y3 y4 y5 y6 y7 y8 y9 y10 y11 y12 y13 y14 y15 y16 y17
    unfold maskref4_portFault.j3
    repeat' first
    | (with_reducible exact ih2 _ _ _ _ _ _ _ _ _ _ _ _ _)
    | (with_reducible exact LeO.refl _)
    | (with_reducible exact LeO.none _)
    | (with_reducible refine LeO.ite ?_ ?_)
    | (with_reducible refine LeO.bind ?_ (fun _ => ?_))
  · intro y0 y1 y2 y3 y4 y5 y6
    unfold maskref4_portFault.l1
    repeat' first
    | (with_reducible exact ih4 _ _ _ _ _ _ _)
    | (with_reducible exact LeO.refl _)
    | (with_reducible exact LeO.none _)
    | (with_reducible refine LeO.ite ?_ ?_)
    | (with_reducible refine LeO.bind ?_ (fun _ => ?_))
theorem maskref4_portFault.mono : ∀ a0 a1 a2 a3 a4 a5 a6 a7 a8 a9 a10 k, LeO (maskref4_portFault.f k a0 a1 a2 a3 a4 a5 a6 a7 a8 a9 a10) (maskref4_portFault.f (k + 1) a0 a1 a2 a3 a4 a5 a6 a7 a8 a9 a10) := by
 intro a0 a1 a2 a3 a4 a5 a6 a7 a8 a9 a10 k
 obtain ⟨ih0, ih1, ih2, ih3, ih4⟩ := maskref4_portFault.mono_l k
 unfold maskref4_portFault.f
 repeat' first
  | (with_reducible exact ih0 _ _ _ _ _ _ _ _ _ _ _ _ _ _)
  | (with_reducible exact maskref4_Printed.mono _ _)
  | (with_reducible exact LeO.refl _)
  | (with_reducible exact LeO.none _)
  | (with_reducible refine LeO.ite ?_ ?_)
  | (with_reducible refine LeO.bind ?_ (fun _ => ?_))
set_option maxHeartbeats 8000000 in
set_option maxRecDepth 100000 in
theorem maskref4_portFault.calls (k : Nat) (a0_0 : Int) (a0_1 : Int) (a0_2 : Int) (A0_3 : Option Addr) (c0_3 : Nat) (l0_3 : List (S98)) (A0_4 : Option Addr) (c0_4 : Nat) (l0_4 : List (S100)) (A0_5 : Option Addr) (c0_5 : Nat) (l0_5 : List (S96)) (A1 : Option Addr) (c1 : Nat) (l1 : List (S96)) (a2_0 : ByteArray) (a2_1 : Bool) (a2_2 : Int) (a2_3 : Int) (r : Int) (w : World) (hr0_3 : Kd.C k98 w A0_3 l0_3.length l0_3) (hc0_3 : l0_3.length ≤ c0_3) (hr0_4 : Kd.C k100 w A0_4 l0_4.length l0_4) (hc0_4 : l0_4.length ≤ c0_4) (hr0_5 : Kd.C k96 w A0_5 l0_5.length l0_5) (hc0_5 : l0_5.length ≤ c0_5) (hr1 : Kd.C k96 w A1 l1.length l1) (hc1 : l1.length ≤ c1) (h : maskref4_portFault.f k a0_0 a0_1 a0_2 l0_3 l0_4 l0_5 l1 a2_0 a2_1 a2_2 a2_3 = some r) :
 Calls Try.prog 52 #[.agg #[.int .i64 a0_0, .int .i64 a0_1, .int .i64 a0_2, .slice A0_3 l0_3.length c0_3, .slice A0_4 l0_4.length c0_4, .slice A0_5 l0_5.length c0_5], .slice A1 l1.length c1, .agg #[.string a2_0, .bool a2_1, .int .i64 a2_2, .int .i64 a2_3]] w fun e w' => e = .returned (.int .i64 r) ∧ Below w.heap.size w w' := by
 have HR0_3 := Aside0.mk hr0_3
 have HC0_3 := Aside0.mk hc0_3
 clear hr0_3 hc0_3
 have HR0_4 := Aside0.mk hr0_4
 have HC0_4 := Aside0.mk hc0_4
 clear hr0_4 hc0_4
 have HR0_5 := Aside0.mk hr0_5
 have HC0_5 := Aside0.mk hc0_5
 clear hr0_5 hc0_5
 have HR1 := Aside0.mk hr1
 clear hr1 hc1
 have HB := Aside0.mk (Below.refl w.heap.size w)
 have H : ((maskref4_Tracks.f a0_0 a0_1 a0_2 l0_3 l0_4 l0_5).bind fun bt249 => ((maskref4_Printed.f k a2_0).bind fun t251 => (if t251 = true then (if a2_1 = true then (maskref4_portFault.j0 k l1 bt249.1 bt249.2 (a2_0.toList == ([] : List UInt8)) a0_0 a0_1 a0_2 l0_3 l0_4 l0_5 a2_0 a2_1 a2_2 a2_3) else (maskref4_portFault.j0 k l1 bt249.1 bt249.2 false a0_0 a0_1 a0_2 l0_3 l0_4 l0_5 a2_0 a2_1 a2_2 a2_3)) else (some 9)))) = some r := h
 clear h
 replace H := Option.bind_eq_some_iff.mp H
 obtain ⟨⟨t249, t250⟩, A40, H⟩ := H
 replace H : ((maskref4_Printed.f k a2_0).bind fun t251 => (if t251 = true then (if a2_1 = true then (maskref4_portFault.j0 k l1 t249 t250 (a2_0.toList == ([] : List UInt8)) a0_0 a0_1 a0_2 l0_3 l0_4 l0_5 a2_0 a2_1 a2_2 a2_3) else (maskref4_portFault.j0 k l1 t249 t250 false a0_0 a0_1 a0_2 l0_3 l0_4 l0_5 a2_0 a2_1 a2_2 a2_3)) else (some 9))) = some r := H
 have A4 := Aside0.mk A40
 clear A40
 replace H := Option.bind_eq_some_iff.mp H
 obtain ⟨t251, A50, H⟩ := H
 replace H : (if t251 = true then (if a2_1 = true then (maskref4_portFault.j0 k l1 t249 t250 (a2_0.toList == ([] : List UInt8)) a0_0 a0_1 a0_2 l0_3 l0_4 l0_5 a2_0 a2_1 a2_2 a2_3) else (maskref4_portFault.j0 k l1 t249 t250 false a0_0 a0_1 a0_2 l0_3 l0_4 l0_5 a2_0 a2_1 a2_2 a2_3)) else (some 9)) = some r := H
 have A5 := Aside0.mk A50
 clear A50
 by_cases c6 : t251 = true
 rotate_left
 · replace c6 := Bool.eq_false_iff.mpr c6
   subst c6
   have H1 : (some 9) = some r := by rw [if_neg (show ¬ (false = true) by decide)] at H; exact H
   clear H
   have H := H1
   clear H1
   obtain rfl := Option.some.inj H
   go_enter Try.func52, Try.ntmps52
   go_wp2_with (first | ((with_reducible refine gate_dst (N := 3) rfl ?_); refine box_event ?hg (N := 3) ?hd (cs := #[.int .i64 a0_0, .int .i64 a0_1, .int .i64 a0_2, .slice A0_3 l0_3.length c0_3, .slice A0_4 l0_4.length c0_4, .slice A0_5 l0_5.length c0_5]) (t := 57) ?hr ?_; (case hd => rfl); (case hg => rfl); (case hr => first | (go_simp; done) | (go_simp; rfl)); intro gb247 hg w112 hbox hb; have n0_ := Aside0.mk (below_step (by repeat (first | (with_reducible first | exact HB.out | apply below_alloc | apply pw_below_drewN | apply below_drew1) | exact HB.out)) hb); have n1_ := Aside0.mk (hbox); have n2_ := Aside0.mk ((by rw [hg]; exact (below_size (by repeat (first | (with_reducible first | exact HB.out | apply below_alloc | apply pw_below_drewN | apply below_drew1) | exact HB.out))) : w.heap.size ≤ gb247)); have n3_ := Aside0.mk ((by rw [hg]; exact (below_size (by repeat (first | (with_reducible first | exact HB.out | apply below_alloc | apply pw_below_drewN | apply below_drew1) | exact HB.out))) : w.heap.size ≤ gb247)); clear HB; have HB := n0_; have BK247 := n1_; clear n0_ n1_ n2_ n3_; clear hb hbox hg) | ((with_reducible refine gate_dst (N := 5) rfl ?_); refine box_event ?hg (N := 5) ?hd (cs := #[.string a2_0, .bool a2_1, .int .i64 a2_2, .int .i64 a2_3]) (t := 96) ?hr ?_; (case hd => rfl); (case hg => rfl); (case hr => first | (go_simp; done) | (go_simp; rfl)); intro gb248 hg w113 hbox hb; have n0_ := Aside0.mk (blk_below (g := gb247) (o := .cells #[.int .i64 a0_0, .int .i64 a0_1, .int .i64 a0_2, .slice A0_3 l0_3.length c0_3, .slice A0_4 l0_4.length c0_4, .slice A0_5 l0_5.length c0_5] 57 (0, 0)) (by (with_reducible repeat (first | refine blk_drewN ?_ _ | refine blk_drew ?_ | refine blk_alloc ?_ _)); exact BK247.out) hb); have n1_ := Aside0.mk (below_step (by repeat (first | (with_reducible first | exact HB.out | apply below_alloc | apply pw_below_drewN | apply below_drew1 | refine below_set ?_ GE247.out) | exact HB.out)) hb); have n2_ := Aside0.mk (hbox); have n3_ := Aside0.mk ((by rw [hg]; exact (below_size (by repeat (first | (with_reducible first | exact HB.out | apply below_alloc | apply pw_below_drewN | apply below_drew1 | refine below_set ?_ GE247.out) | exact HB.out))) : w.heap.size ≤ gb248)); have n4_ := Aside0.mk ((by rw [hg]; exact (below_size (by repeat (first | (with_reducible first | exact HB.out | apply below_alloc | apply pw_below_drewN | apply below_drew1 | refine below_set ?_ GE247.out) | exact HB.out))) : w.heap.size ≤ gb248)); have n5_ := Aside0.mk ((by rw [hg]; exact Nat.ne_of_lt (blk_lt (g := gb247) (o := .cells #[.int .i64 a0_0, .int .i64 a0_1, .int .i64 a0_2, .slice A0_3 l0_3.length c0_3, .slice A0_4 l0_4.length c0_4, .slice A0_5 l0_5.length c0_5] 57 (0, 0)) (by (with_reducible repeat (first | refine blk_drewN ?_ _ | refine blk_drew ?_ | refine blk_alloc ?_ _)); exact BK247.out)) : gb247 ≠ gb248)); have n6_ := Aside0.mk ((by rw [hg]; exact Nat.ne_of_gt (blk_lt (g := gb247) (o := .cells #[.int .i64 a0_0, .int .i64 a0_1, .int .i64 a0_2, .slice A0_3 l0_3.length c0_3, .slice A0_4 l0_4.length c0_4, .slice A0_5 l0_5.length c0_5] 57 (0, 0)) (by (with_reducible repeat (first | refine blk_drewN ?_ _ | refine blk_drew ?_ | refine blk_alloc ?_ _)); exact BK247.out)) : gb248 ≠ gb247)); clear BK247; clear HB; have BK247 := n0_; have HB := n1_; have BK248 := n2_; have NB247_248 := n5_; have NB248_247 := n6_; clear n0_ n1_ n2_ n3_ n4_ n5_ n6_; clear hb hbox hg; have hcz115_0 : w113.cell? ⟨gb247, 0, none⟩ = some (.int .i64 a0_0) := (blk_cell BK247.out 0).trans rfl; have hcz115_1 : w113.cell? ⟨gb247, 1, none⟩ = some (.int .i64 a0_1) := (blk_cell BK247.out 1).trans rfl; have hcz115_2 : w113.cell? ⟨gb247, 2, none⟩ = some (.int .i64 a0_2) := (blk_cell BK247.out 2).trans rfl; have hcz115_3 : w113.cell? ⟨gb247, 3, none⟩ = some (.slice A0_3 l0_3.length c0_3) := (blk_cell BK247.out 3).trans rfl; have hcz115_4 : w113.cell? ⟨gb247, 4, none⟩ = some (.slice A0_4 l0_4.length c0_4) := (blk_cell BK247.out 4).trans rfl; have hcz115_5 : w113.cell? ⟨gb247, 5, none⟩ = some (.slice A0_5 l0_5.length c0_5) := (blk_cell BK247.out 5).trans rfl; have hfz115_5 := blk_frozen BK247.out 5) | ((with_reducible refine gate_callee (f := 28) rfl ?_); refine goesL_ (some 15) rfl rfl Try.func28 (by kernel_rfl) rfl #[.agg #[.int .i64 a0_0, .int .i64 a0_1, .int .i64 a0_2, .slice A0_3 l0_3.length c0_3, .slice A0_4 l0_4.length c0_4, .slice A0_5 l0_5.length c0_5]] rfl (by (try simp only [List.map_toArray, List.map_cons, List.map_nil]); first | done | rfl | (simp only [List.length_drop, List.length_take]; rfl)) ?_; (with_reducible refine (maskref4_Tracks.calls a0_0 a0_1 a0_2 _ _ l0_3 _ _ l0_4 _ _ l0_5 t249 t250 _ ?side1 ?side2 ?side3 ?side4 ?side5 ?side6 A4.out).mono ?_); (case side1 => repeat (first | exact (Kd.C_below HR0_3.out HB.out) | (with_reducible refine Kd.C_alloc ?_ _) | (with_reducible refine Kd.C_drewN ?_ _) | (with_reducible refine Kd.C_drew ?_))); (case side2 => exact HC0_3.out); (case side3 => repeat (first | exact (Kd.C_below HR0_4.out HB.out) | (with_reducible refine Kd.C_alloc ?_ _) | (with_reducible refine Kd.C_drewN ?_ _) | (with_reducible refine Kd.C_drew ?_))); (case side4 => exact HC0_4.out); (case side5 => repeat (first | exact (Kd.C_below HR0_5.out HB.out) | (with_reducible refine Kd.C_alloc ?_ _) | (with_reducible refine Kd.C_drewN ?_ _) | (with_reducible refine Kd.C_drew ?_))); (case side6 => exact HC0_5.out); rintro e w116 ⟨rfl, hb⟩; refine ⟨_, rfl, ?_⟩; have n0_ := Aside0.mk (blk_below (g := gb247) (o := .cells #[.int .i64 a0_0, .int .i64 a0_1, .int .i64 a0_2, .slice A0_3 l0_3.length c0_3, .slice A0_4 l0_4.length c0_4, .slice A0_5 l0_5.length c0_5] 57 (0, 0)) (by (with_reducible repeat (first | refine blk_drewN ?_ _ | refine blk_drew ?_ | refine blk_alloc ?_ _)); exact BK247.out) hb); have n1_ := Aside0.mk (blk_below (g := gb248) (o := .cells #[.string a2_0, .bool a2_1, .int .i64 a2_2, .int .i64 a2_3] 96 (0, 0)) (by (with_reducible repeat (first | refine blk_drewN ?_ _ | refine blk_drew ?_ | refine blk_alloc ?_ _)); exact BK248.out) hb); have n2_ := Aside0.mk (below_step (by repeat (first | (with_reducible first | exact HB.out | apply below_alloc | apply pw_below_drewN | apply below_drew1 | refine below_set ?_ GE247.out | refine below_set ?_ GE248.out) | exact HB.out)) hb); clear BK247; clear BK248; clear HB; have BK248 := n1_; have HB := n2_; clear n0_ n1_ n2_; (try clear hb); (try clear hb2); (try clear hk); (try clear hi); have hcz117_0 : w116.cell? ⟨gb248, 0, none⟩ = some (.string a2_0) := (blk_cell BK248.out 0).trans rfl; have hfz117_3 := blk_frozen BK248.out 3) | ((with_reducible refine gate_callee (f := 59) rfl ?_); refine goesL_ (some 20) rfl rfl Try.func59 (by kernel_rfl) rfl #[.string a2_0] rfl (by (try simp only [List.map_toArray, List.map_cons, List.map_nil]); first | done | rfl | (simp only [List.length_drop, List.length_take]; rfl)) ?_; (with_reducible refine (maskref4_Printed.calls k a2_0 false _ A5.out).mono ?_); rintro e w' ⟨rfl, ⟨nd, rfl⟩⟩; refine ⟨_, rfl, ?_⟩))
   go_ret
   exact ⟨by first | rfl | (simp [errW_none, errW_some] <;> rfl) | (simp [*, errW_none, errW_some] <;> rfl), by repeat (first | (with_reducible first | exact HB.out | apply below_alloc | apply pw_below_drewN | apply below_drew1 | refine below_set ?_ GE247.out | refine below_set ?_ GE248.out) | exact HB.out)⟩
 subst c6
 have H1 : (if a2_1 = true then (maskref4_portFault.j0 k l1 t249 t250 (a2_0.toList == ([] : List UInt8)) a0_0 a0_1 a0_2 l0_3 l0_4 l0_5 a2_0 a2_1 a2_2 a2_3) else (maskref4_portFault.j0 k l1 t249 t250 false a0_0 a0_1 a0_2 l0_3 l0_4 l0_5 a2_0 a2_1 a2_2 a2_3)) = some r := by rw [if_pos rfl] at H; exact H
 clear H
 have H := H1
 clear H1
 have HC7 := Aside0.mk H
 clear H
 go_enter Try.func52, Try.ntmps52
 go_upto_region 4 with (first | ((with_reducible refine gate_dst (N := 3) rfl ?_); refine box_event ?hg (N := 3) ?hd (cs := #[.int .i64 a0_0, .int .i64 a0_1, .int .i64 a0_2, .slice A0_3 l0_3.length c0_3, .slice A0_4 l0_4.length c0_4, .slice A0_5 l0_5.length c0_5]) (t := 57) ?hr ?_; (case hd => rfl); (case hg => rfl); (case hr => first | (go_simp; done) | (go_simp; rfl)); intro gb247 hg w8 hbox hb; have n0_ := Aside0.mk (below_step (by repeat (first | (with_reducible first | exact HB.out | apply below_alloc | apply pw_below_drewN | apply below_drew1) | exact HB.out)) hb); have n1_ := Aside0.mk (hbox); have n2_ := Aside0.mk ((by rw [hg]; exact (below_size (by repeat (first | (with_reducible first | exact HB.out | apply below_alloc | apply pw_below_drewN | apply below_drew1) | exact HB.out))) : w.heap.size ≤ gb247)); have n3_ := Aside0.mk ((by rw [hg]; exact (below_size (by repeat (first | (with_reducible first | exact HB.out | apply below_alloc | apply pw_below_drewN | apply below_drew1) | exact HB.out))) : w.heap.size ≤ gb247)); clear HB; have HB := n0_; have BK247 := n1_; have GE247 := n3_; clear n0_ n1_ n2_ n3_; clear hb hbox hg) | ((with_reducible refine gate_dst (N := 5) rfl ?_); refine box_event ?hg (N := 5) ?hd (cs := #[.string a2_0, .bool a2_1, .int .i64 a2_2, .int .i64 a2_3]) (t := 96) ?hr ?_; (case hd => rfl); (case hg => rfl); (case hr => first | (go_simp; done) | (go_simp; rfl)); intro gb248 hg w9 hbox hb; have n0_ := Aside0.mk (blk_below (g := gb247) (o := .cells #[.int .i64 a0_0, .int .i64 a0_1, .int .i64 a0_2, .slice A0_3 l0_3.length c0_3, .slice A0_4 l0_4.length c0_4, .slice A0_5 l0_5.length c0_5] 57 (0, 0)) (by (with_reducible repeat (first | refine blk_drewN ?_ _ | refine blk_drew ?_ | refine blk_alloc ?_ _)); exact BK247.out) hb); have n1_ := Aside0.mk (below_step (by repeat (first | (with_reducible first | exact HB.out | apply below_alloc | apply pw_below_drewN | apply below_drew1 | refine below_set ?_ GE247.out) | exact HB.out)) hb); have n2_ := Aside0.mk (hbox); have n3_ := Aside0.mk ((by rw [hg]; exact (below_size (by repeat (first | (with_reducible first | exact HB.out | apply below_alloc | apply pw_below_drewN | apply below_drew1 | refine below_set ?_ GE247.out) | exact HB.out))) : w.heap.size ≤ gb248)); have n4_ := Aside0.mk ((by rw [hg]; exact (below_size (by repeat (first | (with_reducible first | exact HB.out | apply below_alloc | apply pw_below_drewN | apply below_drew1 | refine below_set ?_ GE247.out) | exact HB.out))) : w.heap.size ≤ gb248)); have n5_ := Aside0.mk ((by rw [hg]; exact Nat.ne_of_lt (blk_lt (g := gb247) (o := .cells #[.int .i64 a0_0, .int .i64 a0_1, .int .i64 a0_2, .slice A0_3 l0_3.length c0_3, .slice A0_4 l0_4.length c0_4, .slice A0_5 l0_5.length c0_5] 57 (0, 0)) (by (with_reducible repeat (first | refine blk_drewN ?_ _ | refine blk_drew ?_ | refine blk_alloc ?_ _)); exact BK247.out)) : gb247 ≠ gb248)); have n6_ := Aside0.mk ((by rw [hg]; exact Nat.ne_of_gt (blk_lt (g := gb247) (o := .cells #[.int .i64 a0_0, .int .i64 a0_1, .int .i64 a0_2, .slice A0_3 l0_3.length c0_3, .slice A0_4 l0_4.length c0_4, .slice A0_5 l0_5.length c0_5] 57 (0, 0)) (by (with_reducible repeat (first | refine blk_drewN ?_ _ | refine blk_drew ?_ | refine blk_alloc ?_ _)); exact BK247.out)) : gb248 ≠ gb247)); clear BK247; clear HB; have BK247 := n0_; have HB := n1_; have BK248 := n2_; have GE248 := n4_; have NB247_248 := n5_; have NB248_247 := n6_; clear n0_ n1_ n2_ n3_ n4_ n5_ n6_; clear hb hbox hg; have hcz11_0 : w9.cell? ⟨gb247, 0, none⟩ = some (.int .i64 a0_0) := (blk_cell BK247.out 0).trans rfl; have hcz11_1 : w9.cell? ⟨gb247, 1, none⟩ = some (.int .i64 a0_1) := (blk_cell BK247.out 1).trans rfl; have hcz11_2 : w9.cell? ⟨gb247, 2, none⟩ = some (.int .i64 a0_2) := (blk_cell BK247.out 2).trans rfl; have hcz11_3 : w9.cell? ⟨gb247, 3, none⟩ = some (.slice A0_3 l0_3.length c0_3) := (blk_cell BK247.out 3).trans rfl; have hcz11_4 : w9.cell? ⟨gb247, 4, none⟩ = some (.slice A0_4 l0_4.length c0_4) := (blk_cell BK247.out 4).trans rfl; have hcz11_5 : w9.cell? ⟨gb247, 5, none⟩ = some (.slice A0_5 l0_5.length c0_5) := (blk_cell BK247.out 5).trans rfl; have hfz11_0 := blk_frozen BK247.out 0; have hfz11_1 := blk_frozen BK247.out 1; have hfz11_2 := blk_frozen BK247.out 2; have hfz11_3 := blk_frozen BK247.out 3; have hfz11_4 := blk_frozen BK247.out 4; have hfz11_5 := blk_frozen BK247.out 5) | ((with_reducible refine gate_callee (f := 28) rfl ?_); refine goesL_ (some 15) rfl rfl Try.func28 (by kernel_rfl) rfl #[.agg #[.int .i64 a0_0, .int .i64 a0_1, .int .i64 a0_2, .slice A0_3 l0_3.length c0_3, .slice A0_4 l0_4.length c0_4, .slice A0_5 l0_5.length c0_5]] rfl (by (try simp only [List.map_toArray, List.map_cons, List.map_nil]); first | done | rfl | (simp only [List.length_drop, List.length_take]; rfl)) ?_; (with_reducible refine (maskref4_Tracks.calls a0_0 a0_1 a0_2 _ _ l0_3 _ _ l0_4 _ _ l0_5 t249 t250 _ ?side1 ?side2 ?side3 ?side4 ?side5 ?side6 A4.out).mono ?_); (case side1 => repeat (first | exact (Kd.C_below HR0_3.out HB.out) | (with_reducible refine Kd.C_alloc ?_ _) | (with_reducible refine Kd.C_drewN ?_ _) | (with_reducible refine Kd.C_drew ?_))); (case side2 => exact HC0_3.out); (case side3 => repeat (first | exact (Kd.C_below HR0_4.out HB.out) | (with_reducible refine Kd.C_alloc ?_ _) | (with_reducible refine Kd.C_drewN ?_ _) | (with_reducible refine Kd.C_drew ?_))); (case side4 => exact HC0_4.out); (case side5 => repeat (first | exact (Kd.C_below HR0_5.out HB.out) | (with_reducible refine Kd.C_alloc ?_ _) | (with_reducible refine Kd.C_drewN ?_ _) | (with_reducible refine Kd.C_drew ?_))); (case side6 => exact HC0_5.out); rintro e w12 ⟨rfl, hb⟩; refine ⟨_, rfl, ?_⟩; have n0_ := Aside0.mk (blk_below (g := gb247) (o := .cells #[.int .i64 a0_0, .int .i64 a0_1, .int .i64 a0_2, .slice A0_3 l0_3.length c0_3, .slice A0_4 l0_4.length c0_4, .slice A0_5 l0_5.length c0_5] 57 (0, 0)) (by (with_reducible repeat (first | refine blk_drewN ?_ _ | refine blk_drew ?_ | refine blk_alloc ?_ _)); exact BK247.out) hb); have n1_ := Aside0.mk (blk_below (g := gb248) (o := .cells #[.string a2_0, .bool a2_1, .int .i64 a2_2, .int .i64 a2_3] 96 (0, 0)) (by (with_reducible repeat (first | refine blk_drewN ?_ _ | refine blk_drew ?_ | refine blk_alloc ?_ _)); exact BK248.out) hb); have n2_ := Aside0.mk (below_step (by repeat (first | (with_reducible first | exact HB.out | apply below_alloc | apply pw_below_drewN | apply below_drew1 | refine below_set ?_ GE247.out | refine below_set ?_ GE248.out) | exact HB.out)) hb); clear BK247; clear BK248; clear HB; have BK247 := n0_; have BK248 := n1_; have HB := n2_; clear n0_ n1_ n2_; (try clear hb); (try clear hb2); (try clear hk); (try clear hi); have hcz13_0 : w12.cell? ⟨gb248, 0, none⟩ = some (.string a2_0) := (blk_cell BK248.out 0).trans rfl; have hcz13_1 : w12.cell? ⟨gb248, 1, none⟩ = some (.bool a2_1) := (blk_cell BK248.out 1).trans rfl; have hcz13_2 : w12.cell? ⟨gb248, 2, none⟩ = some (.int .i64 a2_2) := (blk_cell BK248.out 2).trans rfl; have hcz13_3 : w12.cell? ⟨gb248, 3, none⟩ = some (.int .i64 a2_3) := (blk_cell BK248.out 3).trans rfl; have hfz13_0 := blk_frozen BK248.out 0; have hfz13_1 := blk_frozen BK248.out 1; have hfz13_2 := blk_frozen BK248.out 2; have hfz13_3 := blk_frozen BK248.out 3) | ((with_reducible refine gate_callee (f := 59) rfl ?_); refine goesL_ (some 20) rfl rfl Try.func59 (by kernel_rfl) rfl #[.string a2_0] rfl (by (try simp only [List.map_toArray, List.map_cons, List.map_nil]); first | done | rfl | (simp only [List.length_drop, List.length_take]; rfl)) ?_; (with_reducible refine (maskref4_Printed.calls k a2_0 true _ A5.out).mono ?_); rintro e w' ⟨rfl, ⟨nd, rfl⟩⟩; refine ⟨_, rfl, ?_⟩))
 (try simp only [Act.put, List.setIfInBounds_toArray, List.set_cons_zero, List.set_cons_succ])
 go_cut [28] (fun v28 wc => ∃ (kq : Nat) (x28_6 : Bool), v28 = .bool x28_6 ∧ Aside0 (maskref4_portFault.j0 kq l1 t249 t250 x28_6 a0_0 a0_1 a0_2 l0_3 l0_4 l0_5 a2_0 a2_1 a2_2 a2_3 = some r) ∧ Aside0 (kq ≤ k) ∧ Aside0 (wc.heap[gb247]? = some (.cells #[.int .i64 a0_0, .int .i64 a0_1, .int .i64 a0_2, (.slice A0_3 l0_3.length c0_3), (.slice A0_4 l0_4.length c0_4), (.slice A0_5 l0_5.length c0_5)] 57 (0, 0))) ∧ Aside0 (wc.heap[gb248]? = some (.cells #[.string a2_0, .bool a2_1, .int .i64 a2_2, .int .i64 a2_3] 96 (0, 0))) ∧ Aside0 (Below w.heap.size w wc))
 case first =>
  have H := HC7.out
  clear HC7
  by_cases c14 : a2_1 = true
  · subst c14
    have H1 : (maskref4_portFault.j0 k l1 t249 t250 (a2_0.toList == ([] : List UInt8)) a0_0 a0_1 a0_2 l0_3 l0_4 l0_5 a2_0 true a2_2 a2_3) = some r := by rw [if_pos rfl] at H; exact H
    clear H
    have H := H1
    clear H1
    have H' := Aside0.mk H
    clear H
    go_wp2
    go_meet
    case rel => exact ⟨_, ((a2_0.toList == ([] : List UInt8))), (by first | rfl | (simp; done) | (simp [*]; done)), H', ⟨by first | omega | exact Nat.le_refl _⟩, ⟨by (with_reducible repeat (first | refine blk_drewN ?_ _ | refine blk_drew ?_ | refine blk_alloc ?_ _)); exact BK247.out⟩, ⟨by (with_reducible repeat (first | refine blk_drewN ?_ _ | refine blk_drew ?_ | refine blk_alloc ?_ _)); exact BK248.out⟩, ⟨by repeat (first | (with_reducible first | exact HB.out | apply below_alloc | apply pw_below_drewN | apply below_drew1 | refine below_set ?_ GE247.out | refine below_set ?_ GE248.out) | exact HB.out)⟩⟩
  replace c14 := Bool.eq_false_iff.mpr c14
  subst c14
  have H1 : (maskref4_portFault.j0 k l1 t249 t250 false a0_0 a0_1 a0_2 l0_3 l0_4 l0_5 a2_0 false a2_2 a2_3) = some r := by rw [if_neg (show ¬ (false = true) by decide)] at H; exact H
  clear H
  have H := H1
  clear H1
  have H' := Aside0.mk H
  clear H
  go_wp2
  go_meet
  case rel => exact ⟨_, (false), (by first | rfl | (simp; done) | (simp [*]; done)), H', ⟨by first | omega | exact Nat.le_refl _⟩, ⟨by (with_reducible repeat (first | refine blk_drewN ?_ _ | refine blk_drew ?_ | refine blk_alloc ?_ _)); exact BK247.out⟩, ⟨by (with_reducible repeat (first | refine blk_drewN ?_ _ | refine blk_drew ?_ | refine blk_alloc ?_ _)); exact BK248.out⟩, ⟨by repeat (first | (with_reducible first | exact HB.out | apply below_alloc | apply pw_below_drewN | apply below_drew1 | refine below_set ?_ GE247.out | refine below_set ?_ GE248.out) | exact HB.out)⟩⟩
 clear HC7
 clear hcz11_0 hcz11_1 hcz11_2 hcz11_3 hcz11_4 hcz11_5 hcz13_0 hcz13_1 hcz13_2 hcz13_3 hfz11_0 hfz11_1 hfz11_2 hfz11_3 hfz11_4 hfz11_5 hfz13_0 hfz13_1 hfz13_2 hfz13_3
 obtain ⟨kq, x28_6, rfl, HA, HJ6, BK247, BK248, HB⟩ := hcut
 cases kq with
 | zero => exact absurd HA.out (by simp [maskref4_portFault.j0])
 | succ kj6 =>
  have H := HA.out
  clear HA
  simp only [maskref4_portFault.j0] at H
  by_cases c19 : x28_6 = true
  · subst c19
    have H1 : (some 4) = some r := by rw [if_pos rfl] at H; exact H
    clear H
    have H := H1
    clear H1
    obtain rfl := Option.some.inj H
    go_wp2
    go_ret
    exact ⟨by first | rfl | (simp [errW_none, errW_some] <;> rfl) | (simp [*, errW_none, errW_some] <;> rfl), by repeat (first | (with_reducible first | exact HB.out | apply below_alloc | apply pw_below_drewN | apply below_drew1 | refine below_set ?_ GE247.out | refine below_set ?_ GE248.out) | exact HB.out)⟩
  replace c19 := Bool.eq_false_iff.mpr c19
  subst c19
  have H1 : ((maskref4_In.f a2_2 0 (wrap64 (t249 - 1))).bind fun t252 => (if t252 = true then ((maskref4_In.f a2_3 0 (wrap64 (t250 - 1))).bind fun t253 => (if t253 = true then (if a2_2 = 0 then (maskref4_portFault.j1 kj6 l1 false a0_0 a0_1 a0_2 l0_3 l0_4 l0_5 a2_0 a2_1 a2_2 a2_3) else (if a2_2 = (wrap64 (t249 - 1)) then (maskref4_portFault.j1 kj6 l1 false a0_0 a0_1 a0_2 l0_3 l0_4 l0_5 a2_0 a2_1 a2_2 a2_3) else (if a2_3 = 0 then (maskref4_portFault.j1 kj6 l1 false a0_0 a0_1 a0_2 l0_3 l0_4 l0_5 a2_0 a2_1 a2_2 a2_3) else (maskref4_portFault.j1 kj6 l1 (a2_3 != (wrap64 (t250 - 1))) a0_0 a0_1 a0_2 l0_3 l0_4 l0_5 a2_0 a2_1 a2_2 a2_3)))) else (maskref4_portFault.j1 kj6 l1 true a0_0 a0_1 a0_2 l0_3 l0_4 l0_5 a2_0 a2_1 a2_2 a2_3))) else (maskref4_portFault.j1 kj6 l1 true a0_0 a0_1 a0_2 l0_3 l0_4 l0_5 a2_0 a2_1 a2_2 a2_3))) = some r := by rw [if_neg (show ¬ (false = true) by decide)] at H; exact H
  clear H
  have H := H1
  clear H1
  have HC20 := Aside0.mk H
  clear H
  go_upto_region 6 with (fail)
  go_cut [66] (fun v66 wc => ∃ (kq : Nat) (x66_19 : Bool), v66 = .bool x66_19 ∧ Aside0 (maskref4_portFault.j1 kq l1 x66_19 a0_0 a0_1 a0_2 l0_3 l0_4 l0_5 a2_0 a2_1 a2_2 a2_3 = some r) ∧ Aside0 (kq ≤ kj6) ∧ Aside0 (wc.heap[gb247]? = some (.cells #[.int .i64 a0_0, .int .i64 a0_1, .int .i64 a0_2, (.slice A0_3 l0_3.length c0_3), (.slice A0_4 l0_4.length c0_4), (.slice A0_5 l0_5.length c0_5)] 57 (0, 0))) ∧ Aside0 (wc.heap[gb248]? = some (.cells #[.string a2_0, .bool a2_1, .int .i64 a2_2, .int .i64 a2_3] 96 (0, 0))) ∧ Aside0 (Below w.heap.size w wc))
  case first =>
   have H := HC20.out
   clear HC20
   replace H := Option.bind_eq_some_iff.mp H
   obtain ⟨t252, A210, H⟩ := H
   replace H : (if t252 = true then ((maskref4_In.f a2_3 0 (wrap64 (t250 - 1))).bind fun t253 => (if t253 = true then (if a2_2 = 0 then (maskref4_portFault.j1 kj6 l1 false a0_0 a0_1 a0_2 l0_3 l0_4 l0_5 a2_0 a2_1 a2_2 a2_3) else (if a2_2 = (wrap64 (t249 - 1)) then (maskref4_portFault.j1 kj6 l1 false a0_0 a0_1 a0_2 l0_3 l0_4 l0_5 a2_0 a2_1 a2_2 a2_3) else (if a2_3 = 0 then (maskref4_portFault.j1 kj6 l1 false a0_0 a0_1 a0_2 l0_3 l0_4 l0_5 a2_0 a2_1 a2_2 a2_3) else (maskref4_portFault.j1 kj6 l1 (a2_3 != (wrap64 (t250 - 1))) a0_0 a0_1 a0_2 l0_3 l0_4 l0_5 a2_0 a2_1 a2_2 a2_3)))) else (maskref4_portFault.j1 kj6 l1 true a0_0 a0_1 a0_2 l0_3 l0_4 l0_5 a2_0 a2_1 a2_2 a2_3))) else (maskref4_portFault.j1 kj6 l1 true a0_0 a0_1 a0_2 l0_3 l0_4 l0_5 a2_0 a2_1 a2_2 a2_3)) = some r := H
   have A21 := Aside0.mk A210
   clear A210
   by_cases c22 : t252 = true
   rotate_left
   · replace c22 := Bool.eq_false_iff.mpr c22
     subst c22
     have H1 : (maskref4_portFault.j1 kj6 l1 true a0_0 a0_1 a0_2 l0_3 l0_4 l0_5 a2_0 a2_1 a2_2 a2_3) = some r := by rw [if_neg (show ¬ (false = true) by decide)] at H; exact H
     clear H
     have H := H1
     clear H1
     have H' := Aside0.mk H
     clear H
     have hcz39_2 : wc.cell? ⟨gb248, 2, none⟩ = some (.int .i64 a2_2) := (blk_cell BK248.out 2).trans rfl
     go_wp2_with ((with_reducible refine gate_callee (f := 16) rfl ?_); refine goesL_ (some 33) rfl rfl Try.func16 (by kernel_rfl) rfl #[.int .i64 a2_2, .int .i64 0, .int .i64 (wrap64 (t249 - 1))] rfl (by (try simp only [List.map_toArray, List.map_cons, List.map_nil]); first | done | rfl | (simp only [List.length_drop, List.length_take]; rfl)) ?_; (with_reducible refine (maskref4_In.calls a2_2 0 (wrap64 (t249 - 1)) false _ A21.out).mono ?_); rintro e w' ⟨rfl, ⟨nd, rfl⟩⟩; refine ⟨_, rfl, ?_⟩)
     go_meet
     case rel => exact ⟨_, (true), (by first | rfl | (simp; done) | (simp [*]; done)), H', ⟨by have := HJ6.out; first | omega | exact Nat.le_refl _⟩, ⟨by (with_reducible repeat (first | refine blk_drewN ?_ _ | refine blk_drew ?_ | refine blk_alloc ?_ _)); exact BK247.out⟩, ⟨by (with_reducible repeat (first | refine blk_drewN ?_ _ | refine blk_drew ?_ | refine blk_alloc ?_ _)); exact BK248.out⟩, ⟨by repeat (first | (with_reducible first | exact HB.out | apply below_alloc | apply pw_below_drewN | apply below_drew1 | refine below_set ?_ GE247.out | refine below_set ?_ GE248.out) | exact HB.out)⟩⟩
   subst c22
   have H1 : ((maskref4_In.f a2_3 0 (wrap64 (t250 - 1))).bind fun t253 => (if t253 = true then (if a2_2 = 0 then (maskref4_portFault.j1 kj6 l1 false a0_0 a0_1 a0_2 l0_3 l0_4 l0_5 a2_0 a2_1 a2_2 a2_3) else (if a2_2 = (wrap64 (t249 - 1)) then (maskref4_portFault.j1 kj6 l1 false a0_0 a0_1 a0_2 l0_3 l0_4 l0_5 a2_0 a2_1 a2_2 a2_3) else (if a2_3 = 0 then (maskref4_portFault.j1 kj6 l1 false a0_0 a0_1 a0_2 l0_3 l0_4 l0_5 a2_0 a2_1 a2_2 a2_3) else (maskref4_portFault.j1 kj6 l1 (a2_3 != (wrap64 (t250 - 1))) a0_0 a0_1 a0_2 l0_3 l0_4 l0_5 a2_0 a2_1 a2_2 a2_3)))) else (maskref4_portFault.j1 kj6 l1 true a0_0 a0_1 a0_2 l0_3 l0_4 l0_5 a2_0 a2_1 a2_2 a2_3))) = some r := by rw [if_pos rfl] at H; exact H
   clear H
   have H := H1
   clear H1
   replace H := Option.bind_eq_some_iff.mp H
   obtain ⟨t253, A230, H⟩ := H
   replace H : (if t253 = true then (if a2_2 = 0 then (maskref4_portFault.j1 kj6 l1 false a0_0 a0_1 a0_2 l0_3 l0_4 l0_5 a2_0 a2_1 a2_2 a2_3) else (if a2_2 = (wrap64 (t249 - 1)) then (maskref4_portFault.j1 kj6 l1 false a0_0 a0_1 a0_2 l0_3 l0_4 l0_5 a2_0 a2_1 a2_2 a2_3) else (if a2_3 = 0 then (maskref4_portFault.j1 kj6 l1 false a0_0 a0_1 a0_2 l0_3 l0_4 l0_5 a2_0 a2_1 a2_2 a2_3) else (maskref4_portFault.j1 kj6 l1 (a2_3 != (wrap64 (t250 - 1))) a0_0 a0_1 a0_2 l0_3 l0_4 l0_5 a2_0 a2_1 a2_2 a2_3)))) else (maskref4_portFault.j1 kj6 l1 true a0_0 a0_1 a0_2 l0_3 l0_4 l0_5 a2_0 a2_1 a2_2 a2_3)) = some r := H
   have A23 := Aside0.mk A230
   clear A230
   by_cases c24 : t253 = true
   rotate_left
   · replace c24 := Bool.eq_false_iff.mpr c24
     subst c24
     have H1 : (maskref4_portFault.j1 kj6 l1 true a0_0 a0_1 a0_2 l0_3 l0_4 l0_5 a2_0 a2_1 a2_2 a2_3) = some r := by rw [if_neg (show ¬ (false = true) by decide)] at H; exact H
     clear H
     have H := H1
     clear H1
     have H' := Aside0.mk H
     clear H
     have hcz37_2 : wc.cell? ⟨gb248, 2, none⟩ = some (.int .i64 a2_2) := (blk_cell BK248.out 2).trans rfl
     have hcz37_3 : wc.cell? ⟨gb248, 3, none⟩ = some (.int .i64 a2_3) := (blk_cell BK248.out 3).trans rfl
     go_wp2_with (first | ((with_reducible refine gate_callee (f := 16) rfl ?_); refine goesL_ (some 33) rfl rfl Try.func16 (by kernel_rfl) rfl #[.int .i64 a2_2, .int .i64 0, .int .i64 (wrap64 (t249 - 1))] rfl (by (try simp only [List.map_toArray, List.map_cons, List.map_nil]); first | done | rfl | (simp only [List.length_drop, List.length_take]; rfl)) ?_; (with_reducible refine (maskref4_In.calls a2_2 0 (wrap64 (t249 - 1)) true _ A21.out).mono ?_); rintro e w' ⟨rfl, ⟨nd, rfl⟩⟩; refine ⟨_, rfl, ?_⟩) | (go_at_call 16; (with_reducible refine (maskref4_In.calls a2_3 0 (wrap64 (t250 - 1)) false _ A23.out).mono ?_); rintro e w' ⟨rfl, ⟨nd, rfl⟩⟩))
     go_meet
     case rel => exact ⟨_, (true), (by first | rfl | (simp; done) | (simp [*]; done)), H', ⟨by have := HJ6.out; first | omega | exact Nat.le_refl _⟩, ⟨by (with_reducible repeat (first | refine blk_drewN ?_ _ | refine blk_drew ?_ | refine blk_alloc ?_ _)); exact BK247.out⟩, ⟨by (with_reducible repeat (first | refine blk_drewN ?_ _ | refine blk_drew ?_ | refine blk_alloc ?_ _)); exact BK248.out⟩, ⟨by repeat (first | (with_reducible first | exact HB.out | apply below_alloc | apply pw_below_drewN | apply below_drew1 | refine below_set ?_ GE247.out | refine below_set ?_ GE248.out) | exact HB.out)⟩⟩
   subst c24
   have H1 : (if a2_2 = 0 then (maskref4_portFault.j1 kj6 l1 false a0_0 a0_1 a0_2 l0_3 l0_4 l0_5 a2_0 a2_1 a2_2 a2_3) else (if a2_2 = (wrap64 (t249 - 1)) then (maskref4_portFault.j1 kj6 l1 false a0_0 a0_1 a0_2 l0_3 l0_4 l0_5 a2_0 a2_1 a2_2 a2_3) else (if a2_3 = 0 then (maskref4_portFault.j1 kj6 l1 false a0_0 a0_1 a0_2 l0_3 l0_4 l0_5 a2_0 a2_1 a2_2 a2_3) else (maskref4_portFault.j1 kj6 l1 (a2_3 != (wrap64 (t250 - 1))) a0_0 a0_1 a0_2 l0_3 l0_4 l0_5 a2_0 a2_1 a2_2 a2_3)))) = some r := by rw [if_pos rfl] at H; exact H
   clear H
   have H := H1
   clear H1
   by_cases c25 : a2_2 = 0
   · rw [if_pos c25] at H
     have c25b0 : (a2_2 == 0) = true := beq_iff_eq.mpr c25
     have c25b1 : (a2_2 != 0) = false := bne_eq_false_iff_eq.mpr c25
     clear c25
     (first | rw [c25b0] | (simp only [i64_w, i32_w]; rw [c25b0]) | skip)
     have H' := Aside0.mk H
     clear H
     have hcz27_2 : wc.cell? ⟨gb248, 2, none⟩ = some (.int .i64 a2_2) := (blk_cell BK248.out 2).trans rfl
     have hcz27_3 : wc.cell? ⟨gb248, 3, none⟩ = some (.int .i64 a2_3) := (blk_cell BK248.out 3).trans rfl
     go_wp2_with (first | ((with_reducible refine gate_callee (f := 16) rfl ?_); refine goesL_ (some 33) rfl rfl Try.func16 (by kernel_rfl) rfl #[.int .i64 a2_2, .int .i64 0, .int .i64 (wrap64 (t249 - 1))] rfl (by (try simp only [List.map_toArray, List.map_cons, List.map_nil]); first | done | rfl | (simp only [List.length_drop, List.length_take]; rfl)) ?_; (with_reducible refine (maskref4_In.calls a2_2 0 (wrap64 (t249 - 1)) true _ A21.out).mono ?_); rintro e w' ⟨rfl, ⟨nd, rfl⟩⟩; refine ⟨_, rfl, ?_⟩) | (go_at_call 16; (with_reducible refine (maskref4_In.calls a2_3 0 (wrap64 (t250 - 1)) true _ A23.out).mono ?_); rintro e w' ⟨rfl, ⟨nd, rfl⟩⟩))
     go_meet
     case rel => exact ⟨_, (false), (by first | rfl | (simp; done) | (simp [*]; done)), H', ⟨by have := HJ6.out; first | omega | exact Nat.le_refl _⟩, ⟨by (with_reducible repeat (first | refine blk_drewN ?_ _ | refine blk_drew ?_ | refine blk_alloc ?_ _)); exact BK247.out⟩, ⟨by (with_reducible repeat (first | refine blk_drewN ?_ _ | refine blk_drew ?_ | refine blk_alloc ?_ _)); exact BK248.out⟩, ⟨by repeat (first | (with_reducible first | exact HB.out | apply below_alloc | apply pw_below_drewN | apply below_drew1 | refine below_set ?_ GE247.out | refine below_set ?_ GE248.out) | exact HB.out)⟩⟩
   rw [if_neg c25] at H
   have c25b0 : (a2_2 == 0) = false := beq_eq_false_iff_ne.mpr c25
   have c25b1 : (a2_2 != 0) = true := bne_iff_ne.mpr c25
   (first | rw [c25b0] | (simp only [i64_w, i32_w]; rw [c25b0]) | skip)
   by_cases c28 : a2_2 = (wrap64 (t249 - 1))
   · rw [if_pos c28] at H
     have c28b1 : (a2_2 != (wrap64 (t249 - 1))) = false := bne_eq_false_iff_eq.mpr c28
     clear c28
     have H' := Aside0.mk H
     clear H
     have hcz30_2 : wc.cell? ⟨gb248, 2, none⟩ = some (.int .i64 a2_2) := (blk_cell BK248.out 2).trans rfl
     have hcz30_3 : wc.cell? ⟨gb248, 3, none⟩ = some (.int .i64 a2_3) := (blk_cell BK248.out 3).trans rfl
     go_wp2_with (first | ((with_reducible refine gate_callee (f := 16) rfl ?_); refine goesL_ (some 33) rfl rfl Try.func16 (by kernel_rfl) rfl #[.int .i64 a2_2, .int .i64 0, .int .i64 (wrap64 (t249 - 1))] rfl (by (try simp only [List.map_toArray, List.map_cons, List.map_nil]); first | done | rfl | (simp only [List.length_drop, List.length_take]; rfl)) ?_; (with_reducible refine (maskref4_In.calls a2_2 0 (wrap64 (t249 - 1)) true _ A21.out).mono ?_); rintro e w' ⟨rfl, ⟨nd, rfl⟩⟩; refine ⟨_, rfl, ?_⟩) | (go_at_call 16; (with_reducible refine (maskref4_In.calls a2_3 0 (wrap64 (t250 - 1)) true _ A23.out).mono ?_); rintro e w' ⟨rfl, ⟨nd, rfl⟩⟩))
     go_meet
     case rel => exact ⟨_, (false), (by first | rfl | (simp; done) | (simp [*]; done)), H', ⟨by have := HJ6.out; first | omega | exact Nat.le_refl _⟩, ⟨by (with_reducible repeat (first | refine blk_drewN ?_ _ | refine blk_drew ?_ | refine blk_alloc ?_ _)); exact BK247.out⟩, ⟨by (with_reducible repeat (first | refine blk_drewN ?_ _ | refine blk_drew ?_ | refine blk_alloc ?_ _)); exact BK248.out⟩, ⟨by repeat (first | (with_reducible first | exact HB.out | apply below_alloc | apply pw_below_drewN | apply below_drew1 | refine below_set ?_ GE247.out | refine below_set ?_ GE248.out) | exact HB.out)⟩⟩
   rw [if_neg c28] at H
   have c28b0 : (a2_2 == (wrap64 (t249 - 1))) = false := beq_eq_false_iff_ne.mpr c28
   have c28b1 : (a2_2 != (wrap64 (t249 - 1))) = true := bne_iff_ne.mpr c28
   by_cases c31 : a2_3 = 0
   rotate_left
   · rw [if_neg c31] at H
     have c31b1 : (a2_3 != 0) = true := bne_iff_ne.mpr c31
     have H' := Aside0.mk H
     clear H
     have hcz35_2 : wc.cell? ⟨gb248, 2, none⟩ = some (.int .i64 a2_2) := (blk_cell BK248.out 2).trans rfl
     have hcz35_3 : wc.cell? ⟨gb248, 3, none⟩ = some (.int .i64 a2_3) := (blk_cell BK248.out 3).trans rfl
     go_wp2_with (first | ((with_reducible refine gate_callee (f := 16) rfl ?_); refine goesL_ (some 33) rfl rfl Try.func16 (by kernel_rfl) rfl #[.int .i64 a2_2, .int .i64 0, .int .i64 (wrap64 (t249 - 1))] rfl (by (try simp only [List.map_toArray, List.map_cons, List.map_nil]); first | done | rfl | (simp only [List.length_drop, List.length_take]; rfl)) ?_; (with_reducible refine (maskref4_In.calls a2_2 0 (wrap64 (t249 - 1)) true _ A21.out).mono ?_); rintro e w' ⟨rfl, ⟨nd, rfl⟩⟩; refine ⟨_, rfl, ?_⟩) | (go_at_call 16; (with_reducible refine (maskref4_In.calls a2_3 0 (wrap64 (t250 - 1)) true _ A23.out).mono ?_); rintro e w' ⟨rfl, ⟨nd, rfl⟩⟩))
     go_meet
     case rel => exact ⟨_, ((a2_3 != (wrap64 (t250 - 1)))), (by first | rfl | (simp; done) | (simp [*]; done)), H', ⟨by have := HJ6.out; first | omega | exact Nat.le_refl _⟩, ⟨by (with_reducible repeat (first | refine blk_drewN ?_ _ | refine blk_drew ?_ | refine blk_alloc ?_ _)); exact BK247.out⟩, ⟨by (with_reducible repeat (first | refine blk_drewN ?_ _ | refine blk_drew ?_ | refine blk_alloc ?_ _)); exact BK248.out⟩, ⟨by repeat (first | (with_reducible first | exact HB.out | apply below_alloc | apply pw_below_drewN | apply below_drew1 | refine below_set ?_ GE247.out | refine below_set ?_ GE248.out) | exact HB.out)⟩⟩
   rw [if_pos c31] at H
   have c31b1 : (a2_3 != 0) = false := bne_eq_false_iff_eq.mpr c31
   clear c31
   have H' := Aside0.mk H
   clear H
   have hcz33_2 : wc.cell? ⟨gb248, 2, none⟩ = some (.int .i64 a2_2) := (blk_cell BK248.out 2).trans rfl
   have hcz33_3 : wc.cell? ⟨gb248, 3, none⟩ = some (.int .i64 a2_3) := (blk_cell BK248.out 3).trans rfl
   go_wp2_with (first | ((with_reducible refine gate_callee (f := 16) rfl ?_); refine goesL_ (some 33) rfl rfl Try.func16 (by kernel_rfl) rfl #[.int .i64 a2_2, .int .i64 0, .int .i64 (wrap64 (t249 - 1))] rfl (by (try simp only [List.map_toArray, List.map_cons, List.map_nil]); first | done | rfl | (simp only [List.length_drop, List.length_take]; rfl)) ?_; (with_reducible refine (maskref4_In.calls a2_2 0 (wrap64 (t249 - 1)) true _ A21.out).mono ?_); rintro e w' ⟨rfl, ⟨nd, rfl⟩⟩; refine ⟨_, rfl, ?_⟩) | (go_at_call 16; (with_reducible refine (maskref4_In.calls a2_3 0 (wrap64 (t250 - 1)) true _ A23.out).mono ?_); rintro e w' ⟨rfl, ⟨nd, rfl⟩⟩))
   go_meet
   case rel => exact ⟨_, (false), (by first | rfl | (simp; done) | (simp [*]; done)), H', ⟨by have := HJ6.out; first | omega | exact Nat.le_refl _⟩, ⟨by (with_reducible repeat (first | refine blk_drewN ?_ _ | refine blk_drew ?_ | refine blk_alloc ?_ _)); exact BK247.out⟩, ⟨by (with_reducible repeat (first | refine blk_drewN ?_ _ | refine blk_drew ?_ | refine blk_alloc ?_ _)); exact BK248.out⟩, ⟨by repeat (first | (with_reducible first | exact HB.out | apply below_alloc | apply pw_below_drewN | apply below_drew1 | refine below_set ?_ GE247.out | refine below_set ?_ GE248.out) | exact HB.out)⟩⟩
  clear HC20
  obtain ⟨kq, x66_19, rfl, HA, HJ19, BK247, BK248, HB⟩ := hcut
  cases kq with
  | zero => exact absurd HA.out (by simp [maskref4_portFault.j1])
  | succ kj19 =>
   have H := HA.out
   clear HA
   simp only [maskref4_portFault.j1] at H
   by_cases c40 : x66_19 = true
   · subst c40
     have H1 : (some 2) = some r := by rw [if_pos rfl] at H; exact H
     clear H
     have H := H1
     clear H1
     obtain rfl := Option.some.inj H
     go_wp2
     go_ret
     exact ⟨by first | rfl | (simp [errW_none, errW_some] <;> rfl) | (simp [*, errW_none, errW_some] <;> rfl), by repeat (first | (with_reducible first | exact HB.out | apply below_alloc | apply pw_below_drewN | apply below_drew1 | refine below_set ?_ GE247.out | refine below_set ?_ GE248.out) | exact HB.out)⟩
   replace c40 := Bool.eq_false_iff.mpr c40
   subst c40
   have H1 : (maskref4_portFault.l0 kj19 l1 (l1.length : Int) 0 a0_0 a0_1 a0_2 l0_3 l0_4 l0_5 a2_0 a2_1 a2_2 a2_3) = some r := by rw [if_neg (show ¬ (false = true) by decide)] at H; exact H
   clear H
   have H := H1
   clear H1
   have H' := Aside0.mk H
   clear H
   go_wp2
   go_loopg [69] kj19 (fun kq v69 w' => ∃ (x69_3 : Int), v69 = .int .i64 x69_3 ∧ Aside0 (maskref4_portFault.l0 kq l1 (l1.length : Int) x69_3 a0_0 a0_1 a0_2 l0_3 l0_4 l0_5 a2_0 a2_1 a2_2 a2_3 = some r) ∧ Aside0 (kq ≤ kj19) ∧ Aside0 (w'.heap[gb247]? = some (.cells #[.int .i64 a0_0, .int .i64 a0_1, .int .i64 a0_2, (.slice A0_3 l0_3.length c0_3), (.slice A0_4 l0_4.length c0_4), (.slice A0_5 l0_5.length c0_5)] 57 (0, 0))) ∧ Aside0 (w'.heap[gb248]? = some (.cells #[.string a2_0, .bool a2_1, .int .i64 a2_2, .int .i64 a2_3] 96 (0, 0))) ∧ Aside0 (Below w.heap.size w w'))
   case atStart => exact ⟨(0), (by first | rfl | (simp; done) | (simp [*]; done)), H', ⟨Nat.le_refl _⟩, ⟨by (with_reducible repeat (first | refine blk_drewN ?_ _ | refine blk_drew ?_ | refine blk_alloc ?_ _)); exact BK247.out⟩, ⟨by (with_reducible repeat (first | refine blk_drewN ?_ _ | refine blk_drew ?_ | refine blk_alloc ?_ _)); exact BK248.out⟩, ⟨by repeat (first | (with_reducible first | exact HB.out | apply below_alloc | apply pw_below_drewN | apply below_drew1 | refine below_set ?_ GE247.out | refine below_set ?_ GE248.out) | exact HB.out)⟩⟩
   clear H'
   obtain ⟨x69_3, rfl, HA, HK3, BK247, BK248, HB⟩ := hrel
   cases gk with
   | zero => exact absurd HA.out (by simp [maskref4_portFault.l0])
   | succ k3 =>
    have H := HA.out
    clear HA
    simp only [maskref4_portFault.l0] at H
    by_cases c41 : x69_3 < (l1.length : Int)
    · rw [if_pos c41] at H
      have c41b0 : decide (x69_3 < (l1.length : Int)) = true := decide_eq_true c41
      clear c41
      by_cases c42 : 0 ≤ x69_3
      rotate_left
      · rw [if_neg c42] at H
        exact absurd H (by simp)
      rw [if_pos c42] at H
      have c42b0 : decide (0 ≤ x69_3) = true := decide_eq_true c42
      clear c42
      by_cases c43 : x69_3 < (l1.length : Int)
      rotate_left
      · rw [if_neg c43] at H
        exact absurd H (by simp)
      rw [if_pos c43] at H
      have c43b0 : decide (x69_3 < (l1.length : Int)) = true := decide_eq_true c43
      clear c43
      have HC44 := Aside0.mk H
      clear H
      have p254 : 0 ≤ (x69_3 : Int) := of_decide_eq_true (by first | (with_reducible assumption) | assumption)
      have q254 : x69_3 < (l1.length : Int) := of_decide_eq_true (by first | (with_reducible assumption) | assumption)
      obtain ⟨ad254, e254, hx254_0, hx254_1, hx254_2, hx254_3⟩ := at_T96 HR1.out x69_3 p254 q254
      cases e254
      replace hx254_0 := (HB.out.cell (World.block_lt_of_cell? w _ hx254_0)).trans hx254_0
      replace hx254_1 := (HB.out.cell (World.block_lt_of_cell? w _ hx254_1)).trans hx254_1
      replace hx254_2 := (HB.out.cell (World.block_lt_of_cell? w _ hx254_2)).trans hx254_2
      replace hx254_3 := (HB.out.cell (World.block_lt_of_cell? w _ hx254_3)).trans hx254_3
      replace p254 := eq_true p254
      replace q254 := eq_true q254
      go_upto_region 11 with ((with_reducible refine gate_dst (N := 10) rfl ?_); refine box_event ?hg (N := 10) ?hd (cs := #[.string (⟨#[]⟩ : ByteArray), .bool false, .int .i64 0, .int .i64 0]) (t := 96) ?hr ?_; (case hd => rfl); (case hg => rfl); (case hr => first | (go_simp; done) | (go_simp; rfl)); intro gb255 hg w45 hbox hb; have n0_ := Aside0.mk (blk_below (g := gb247) (o := .cells #[.int .i64 a0_0, .int .i64 a0_1, .int .i64 a0_2, .slice A0_3 l0_3.length c0_3, .slice A0_4 l0_4.length c0_4, .slice A0_5 l0_5.length c0_5] 57 (0, 0)) (by (with_reducible repeat (first | refine blk_drewN ?_ _ | refine blk_drew ?_ | refine blk_alloc ?_ _)); exact BK247.out) hb); have n1_ := Aside0.mk (blk_below (g := gb248) (o := .cells #[.string a2_0, .bool a2_1, .int .i64 a2_2, .int .i64 a2_3] 96 (0, 0)) (by (with_reducible repeat (first | refine blk_drewN ?_ _ | refine blk_drew ?_ | refine blk_alloc ?_ _)); exact BK248.out) hb); have n2_ := Aside0.mk (below_step (by repeat (first | (with_reducible first | exact HB.out | apply below_alloc | apply pw_below_drewN | apply below_drew1 | refine below_set ?_ GE247.out | refine below_set ?_ GE248.out) | exact HB.out)) hb); have n3_ := Aside0.mk (hbox); have n4_ := Aside0.mk ((by rw [hg]; exact (below_size (by repeat (first | (with_reducible first | exact HB.out | apply below_alloc | apply pw_below_drewN | apply below_drew1 | refine below_set ?_ GE247.out | refine below_set ?_ GE248.out) | exact HB.out))) : w.heap.size ≤ gb255)); have n5_ := Aside0.mk ((by rw [hg]; exact (below_size (by repeat (first | (with_reducible first | exact HB.out | apply below_alloc | apply pw_below_drewN | apply below_drew1 | refine below_set ?_ GE247.out | refine below_set ?_ GE248.out) | exact HB.out))) : w.heap.size ≤ gb255)); have n6_ := Aside0.mk ((by rw [hg]; exact Nat.ne_of_lt (blk_lt (g := gb247) (o := .cells #[.int .i64 a0_0, .int .i64 a0_1, .int .i64 a0_2, .slice A0_3 l0_3.length c0_3, .slice A0_4 l0_4.length c0_4, .slice A0_5 l0_5.length c0_5] 57 (0, 0)) (by (with_reducible repeat (first | refine blk_drewN ?_ _ | refine blk_drew ?_ | refine blk_alloc ?_ _)); exact BK247.out)) : gb247 ≠ gb255)); have n7_ := Aside0.mk ((by rw [hg]; exact Nat.ne_of_gt (blk_lt (g := gb247) (o := .cells #[.int .i64 a0_0, .int .i64 a0_1, .int .i64 a0_2, .slice A0_3 l0_3.length c0_3, .slice A0_4 l0_4.length c0_4, .slice A0_5 l0_5.length c0_5] 57 (0, 0)) (by (with_reducible repeat (first | refine blk_drewN ?_ _ | refine blk_drew ?_ | refine blk_alloc ?_ _)); exact BK247.out)) : gb255 ≠ gb247)); have n8_ := Aside0.mk ((by rw [hg]; exact Nat.ne_of_lt (blk_lt (g := gb248) (o := .cells #[.string a2_0, .bool a2_1, .int .i64 a2_2, .int .i64 a2_3] 96 (0, 0)) (by (with_reducible repeat (first | refine blk_drewN ?_ _ | refine blk_drew ?_ | refine blk_alloc ?_ _)); exact BK248.out)) : gb248 ≠ gb255)); have n9_ := Aside0.mk ((by rw [hg]; exact Nat.ne_of_gt (blk_lt (g := gb248) (o := .cells #[.string a2_0, .bool a2_1, .int .i64 a2_2, .int .i64 a2_3] 96 (0, 0)) (by (with_reducible repeat (first | refine blk_drewN ?_ _ | refine blk_drew ?_ | refine blk_alloc ?_ _)); exact BK248.out)) : gb255 ≠ gb248)); clear BK247; clear BK248; clear HB; have BK247 := n0_; have BK248 := n1_; have HB := n2_; have BK255 := n3_; have GE255 := n5_; have NB247_255 := n6_; have NB255_247 := n7_; have NB248_255 := n8_; have NB255_248 := n9_; clear n0_ n1_ n2_ n3_ n4_ n5_ n6_ n7_ n8_ n9_; clear hb hbox hg; have hcz48_0 : w45.cell? ⟨gb255, 0, none⟩ = some (.string (⟨#[]⟩ : ByteArray)) := (blk_cell BK255.out 0).trans rfl; have hcz48_1 : w45.cell? ⟨gb255, 1, none⟩ = some (.bool false) := (blk_cell BK255.out 1).trans rfl; have hcz48_2 : w45.cell? ⟨gb255, 2, none⟩ = some (.int .i64 0) := (blk_cell BK255.out 2).trans rfl; have hcz48_3 : w45.cell? ⟨gb255, 3, none⟩ = some (.int .i64 0) := (blk_cell BK255.out 3).trans rfl; have hfz48_0 := blk_frozen BK255.out 0; have hfz48_1 := blk_frozen BK255.out 1; have hfz48_2 := blk_frozen BK255.out 2; have hfz48_3 := blk_frozen BK255.out 3)
      (try simp only [Act.put, List.setIfInBounds_toArray, List.set_cons_zero, List.set_cons_succ])
      go_cut [84] (fun v84 wc => ∃ (kq : Nat) (x84_43 : Bool), v84 = .bool x84_43 ∧ Aside0 (maskref4_portFault.j3 kq l1 (l1.length : Int) x69_3 x84_43 a0_0 a0_1 a0_2 l0_3 l0_4 l0_5 a2_0 a2_1 a2_2 a2_3 ((rd_T96 l1 x69_3).f0) ((rd_T96 l1 x69_3).f1) ((rd_T96 l1 x69_3).f2) ((rd_T96 l1 x69_3).f3) = some r) ∧ Aside0 (kq ≤ k3) ∧ Aside0 (wc.heap[gb247]? = some (.cells #[.int .i64 a0_0, .int .i64 a0_1, .int .i64 a0_2, (.slice A0_3 l0_3.length c0_3), (.slice A0_4 l0_4.length c0_4), (.slice A0_5 l0_5.length c0_5)] 57 (0, 0))) ∧ Aside0 (wc.heap[gb248]? = some (.cells #[.string a2_0, .bool a2_1, .int .i64 a2_2, .int .i64 a2_3] 96 (0, 0))) ∧ Aside0 (wc.heap[gb255]? = some (.cells #[.string ((rd_T96 l1 x69_3).f0), .bool ((rd_T96 l1 x69_3).f1), .int .i64 ((rd_T96 l1 x69_3).f2), .int .i64 ((rd_T96 l1 x69_3).f3)] 96 (0, 0))) ∧ Aside0 (Below w.heap.size w wc))
      case first =>
       have H := HC44.out
       clear HC44
       by_cases c49 : a2_0.toList = ((rd_T96 l1 x69_3).f0).toList
       rotate_left
       · rw [if_neg c49] at H
         have c49b0 : (a2_0.toList == ((rd_T96 l1 x69_3).f0).toList) = false := beq_eq_false_iff_ne.mpr c49
         (first | rw [c49b0] | (simp only [i64_w, i32_w]; rw [c49b0]) | skip)
         have H' := Aside0.mk H
         clear H
         have hnc56 := NB255_248.out
         have hcz57_0 : w45.cell? ⟨gb248, 0, none⟩ = some (.string a2_0) := (blk_cell BK248.out 0).trans rfl
         have hnb58 := NB255_247.out
         have hnc58 := NB247_255.out
         go_wp2
         go_meet
         case rel => exact ⟨_, (false), (by first | rfl | (simp; done) | (simp [*]; done)), H', ⟨by have := HJ6.out; have := HJ19.out; have := HK3.out; first | omega | exact Nat.le_refl _⟩, ⟨by (with_reducible repeat (first | refine blk_drewN ?_ _ | refine blk_drew ?_ | refine blk_alloc ?_ _)); refine blk_far ?_ NB247_255.out _; (with_reducible repeat (first | refine blk_drewN ?_ _ | refine blk_drew ?_ | refine blk_alloc ?_ _)); refine blk_far ?_ NB247_255.out _; (with_reducible repeat (first | refine blk_drewN ?_ _ | refine blk_drew ?_ | refine blk_alloc ?_ _)); refine blk_far ?_ NB247_255.out _; (with_reducible repeat (first | refine blk_drewN ?_ _ | refine blk_drew ?_ | refine blk_alloc ?_ _)); refine blk_far ?_ NB247_255.out _; (with_reducible repeat (first | refine blk_drewN ?_ _ | refine blk_drew ?_ | refine blk_alloc ?_ _)); exact BK247.out⟩, ⟨by (with_reducible repeat (first | refine blk_drewN ?_ _ | refine blk_drew ?_ | refine blk_alloc ?_ _)); refine blk_far ?_ NB248_255.out _; (with_reducible repeat (first | refine blk_drewN ?_ _ | refine blk_drew ?_ | refine blk_alloc ?_ _)); refine blk_far ?_ NB248_255.out _; (with_reducible repeat (first | refine blk_drewN ?_ _ | refine blk_drew ?_ | refine blk_alloc ?_ _)); refine blk_far ?_ NB248_255.out _; (with_reducible repeat (first | refine blk_drewN ?_ _ | refine blk_drew ?_ | refine blk_alloc ?_ _)); refine blk_far ?_ NB248_255.out _; (with_reducible repeat (first | refine blk_drewN ?_ _ | refine blk_drew ?_ | refine blk_alloc ?_ _)); exact BK248.out⟩, ⟨by (with_reducible repeat (first | refine blk_drewN ?_ _ | refine blk_drew ?_ | refine blk_alloc ?_ _)); refine blk_put (cs := #[.string ((rd_T96 l1 x69_3).f0), .bool ((rd_T96 l1 x69_3).f1), .int .i64 ((rd_T96 l1 x69_3).f2), .int .i64 0]) ?_ 3 _ rfl; (with_reducible repeat (first | refine blk_drewN ?_ _ | refine blk_drew ?_ | refine blk_alloc ?_ _)); refine blk_put (cs := #[.string ((rd_T96 l1 x69_3).f0), .bool ((rd_T96 l1 x69_3).f1), .int .i64 0, .int .i64 0]) ?_ 2 _ rfl; (with_reducible repeat (first | refine blk_drewN ?_ _ | refine blk_drew ?_ | refine blk_alloc ?_ _)); refine blk_put (cs := #[.string ((rd_T96 l1 x69_3).f0), .bool false, .int .i64 0, .int .i64 0]) ?_ 1 _ rfl; (with_reducible repeat (first | refine blk_drewN ?_ _ | refine blk_drew ?_ | refine blk_alloc ?_ _)); refine blk_put (cs := #[.string (⟨#[]⟩ : ByteArray), .bool false, .int .i64 0, .int .i64 0]) ?_ 0 _ rfl; (with_reducible repeat (first | refine blk_drewN ?_ _ | refine blk_drew ?_ | refine blk_alloc ?_ _)); exact BK255.out⟩, ⟨by repeat (first | (with_reducible first | exact HB.out | apply below_alloc | apply pw_below_drewN | apply below_drew1 | refine below_set ?_ GE247.out | refine below_set ?_ GE248.out | refine below_set ?_ GE255.out) | exact HB.out)⟩⟩
       rw [if_pos c49] at H
       have c49b0 : (a2_0.toList == ((rd_T96 l1 x69_3).f0).toList) = true := beq_iff_eq.mpr c49
       clear c49
       (first | rw [c49b0] | (simp only [i64_w, i32_w]; rw [c49b0]) | skip)
       have H' := Aside0.mk H
       clear H
       have hnc51 := NB255_248.out
       have hcz52_0 : w45.cell? ⟨gb248, 0, none⟩ = some (.string a2_0) := (blk_cell BK248.out 0).trans rfl
       have hcz52_1 : w45.cell? ⟨gb248, 1, none⟩ = some (.bool a2_1) := (blk_cell BK248.out 1).trans rfl
       have hnb53 := NB255_247.out
       have hnc53 := NB247_255.out
       go_wp2
       go_meet
       case rel => exact ⟨_, ((a2_1 == ((rd_T96 l1 x69_3).f1))), (by first | rfl | (simp; done) | (simp [*]; done)), H', ⟨by have := HJ6.out; have := HJ19.out; have := HK3.out; first | omega | exact Nat.le_refl _⟩, ⟨by (with_reducible repeat (first | refine blk_drewN ?_ _ | refine blk_drew ?_ | refine blk_alloc ?_ _)); refine blk_far ?_ NB247_255.out _; (with_reducible repeat (first | refine blk_drewN ?_ _ | refine blk_drew ?_ | refine blk_alloc ?_ _)); refine blk_far ?_ NB247_255.out _; (with_reducible repeat (first | refine blk_drewN ?_ _ | refine blk_drew ?_ | refine blk_alloc ?_ _)); refine blk_far ?_ NB247_255.out _; (with_reducible repeat (first | refine blk_drewN ?_ _ | refine blk_drew ?_ | refine blk_alloc ?_ _)); refine blk_far ?_ NB247_255.out _; (with_reducible repeat (first | refine blk_drewN ?_ _ | refine blk_drew ?_ | refine blk_alloc ?_ _)); exact BK247.out⟩, ⟨by (with_reducible repeat (first | refine blk_drewN ?_ _ | refine blk_drew ?_ | refine blk_alloc ?_ _)); refine blk_far ?_ NB248_255.out _; (with_reducible repeat (first | refine blk_drewN ?_ _ | refine blk_drew ?_ | refine blk_alloc ?_ _)); refine blk_far ?_ NB248_255.out _; (with_reducible repeat (first | refine blk_drewN ?_ _ | refine blk_drew ?_ | refine blk_alloc ?_ _)); refine blk_far ?_ NB248_255.out _; (with_reducible repeat (first | refine blk_drewN ?_ _ | refine blk_drew ?_ | refine blk_alloc ?_ _)); refine blk_far ?_ NB248_255.out _; (with_reducible repeat (first | refine blk_drewN ?_ _ | refine blk_drew ?_ | refine blk_alloc ?_ _)); exact BK248.out⟩, ⟨by (with_reducible repeat (first | refine blk_drewN ?_ _ | refine blk_drew ?_ | refine blk_alloc ?_ _)); refine blk_put (cs := #[.string ((rd_T96 l1 x69_3).f0), .bool ((rd_T96 l1 x69_3).f1), .int .i64 ((rd_T96 l1 x69_3).f2), .int .i64 0]) ?_ 3 _ rfl; (with_reducible repeat (first | refine blk_drewN ?_ _ | refine blk_drew ?_ | refine blk_alloc ?_ _)); refine blk_put (cs := #[.string ((rd_T96 l1 x69_3).f0), .bool ((rd_T96 l1 x69_3).f1), .int .i64 0, .int .i64 0]) ?_ 2 _ rfl; (with_reducible repeat (first | refine blk_drewN ?_ _ | refine blk_drew ?_ | refine blk_alloc ?_ _)); refine blk_put (cs := #[.string ((rd_T96 l1 x69_3).f0), .bool false, .int .i64 0, .int .i64 0]) ?_ 1 _ rfl; (with_reducible repeat (first | refine blk_drewN ?_ _ | refine blk_drew ?_ | refine blk_alloc ?_ _)); refine blk_put (cs := #[.string (⟨#[]⟩ : ByteArray), .bool false, .int .i64 0, .int .i64 0]) ?_ 0 _ rfl; (with_reducible repeat (first | refine blk_drewN ?_ _ | refine blk_drew ?_ | refine blk_alloc ?_ _)); exact BK255.out⟩, ⟨by repeat (first | (with_reducible first | exact HB.out | apply below_alloc | apply pw_below_drewN | apply below_drew1 | refine below_set ?_ GE247.out | refine below_set ?_ GE248.out | refine below_set ?_ GE255.out) | exact HB.out)⟩⟩
      clear HC44
      clear c41b0 c42b0 c43b0 hcz48_0 hcz48_1 hcz48_2 hcz48_3 hfz48_0 hfz48_1 hfz48_2 hfz48_3 hx254_0 hx254_1 hx254_2 hx254_3 p254 q254
      obtain ⟨kq, x84_43, rfl, HA, HJ43, BK247, BK248, BK255, HB⟩ := hcut
      cases kq with
      | zero => exact absurd HA.out (by simp [maskref4_portFault.j3])
      | succ kj43 =>
       have H := HA.out
       clear HA
       simp only [maskref4_portFault.j3] at H
       by_cases c60 : x84_43 = true
       · subst c60
         have H1 : (some 6) = some r := by rw [if_pos rfl] at H; exact H
         clear H
         have H := H1
         clear H1
         obtain rfl := Option.some.inj H
         go_wp2
         go_ret
         exact ⟨by first | rfl | (simp [errW_none, errW_some] <;> rfl) | (simp [*, errW_none, errW_some] <;> rfl), by repeat (first | (with_reducible first | exact HB.out | apply below_alloc | apply pw_below_drewN | apply below_drew1 | refine below_set ?_ GE247.out | refine below_set ?_ GE248.out | refine below_set ?_ GE255.out) | exact HB.out)⟩
       replace c60 := Bool.eq_false_iff.mpr c60
       subst c60
       have H1 : ((maskref4_beside.f a2_2 ((rd_T96 l1 x69_3).f2)).bind fun t256 => (if t256 = true then ((maskref4_beside.f a2_3 ((rd_T96 l1 x69_3).f3)).bind fun t257 => (if t257 = true then (some 15) else (maskref4_portFault.l0 kj43 l1 (l1.length : Int) (wrap64 (x69_3 + 1)) a0_0 a0_1 a0_2 l0_3 l0_4 l0_5 a2_0 a2_1 a2_2 a2_3))) else (maskref4_portFault.l0 kj43 l1 (l1.length : Int) (wrap64 (x69_3 + 1)) a0_0 a0_1 a0_2 l0_3 l0_4 l0_5 a2_0 a2_1 a2_2 a2_3))) = some r := by rw [if_neg (show ¬ (false = true) by decide)] at H; exact H
       clear H
       have H := H1
       clear H1
       replace H := Option.bind_eq_some_iff.mp H
       obtain ⟨t256, A610, H⟩ := H
       replace H : (if t256 = true then ((maskref4_beside.f a2_3 ((rd_T96 l1 x69_3).f3)).bind fun t257 => (if t257 = true then (some 15) else (maskref4_portFault.l0 kj43 l1 (l1.length : Int) (wrap64 (x69_3 + 1)) a0_0 a0_1 a0_2 l0_3 l0_4 l0_5 a2_0 a2_1 a2_2 a2_3))) else (maskref4_portFault.l0 kj43 l1 (l1.length : Int) (wrap64 (x69_3 + 1)) a0_0 a0_1 a0_2 l0_3 l0_4 l0_5 a2_0 a2_1 a2_2 a2_3)) = some r := H
       have A61 := Aside0.mk A610
       clear A610
       by_cases c62 : t256 = true
       rotate_left
       · replace c62 := Bool.eq_false_iff.mpr c62
         subst c62
         have H1 : (maskref4_portFault.l0 kj43 l1 (l1.length : Int) (wrap64 (x69_3 + 1)) a0_0 a0_1 a0_2 l0_3 l0_4 l0_5 a2_0 a2_1 a2_2 a2_3) = some r := by rw [if_neg (show ¬ (false = true) by decide)] at H; exact H
         clear H
         have H := H1
         clear H1
         have H' := Aside0.mk H
         clear H
         have hcz77_2 : wc.cell? ⟨gb248, 2, none⟩ = some (.int .i64 a2_2) := (blk_cell BK248.out 2).trans rfl
         have hcz79_2 : wc.cell? ⟨gb255, 2, none⟩ = some (.int .i64 ((rd_T96 l1 x69_3).f2)) := (blk_cell BK255.out 2).trans rfl
         go_wp2_with ((with_reducible refine gate_callee (f := 60) rfl ?_); refine goesL_ (some 89) rfl rfl Try.func60 (by kernel_rfl) rfl #[.int .i64 a2_2, .int .i64 ((rd_T96 l1 x69_3).f2)] rfl (by (try simp only [List.map_toArray, List.map_cons, List.map_nil]); first | done | rfl | (simp only [List.length_drop, List.length_take]; rfl)) ?_; (with_reducible refine (maskref4_beside.calls a2_2 ((rd_T96 l1 x69_3).f2) false _ A61.out).mono ?_); rintro e w' ⟨rfl, ⟨nd, rfl⟩⟩; refine ⟨_, rfl, ?_⟩)
         go_roundg kj43
         case measure => have := HJ6.out; have := HJ19.out; have := HK3.out; have := HJ43.out; omega
         case rel => exact ⟨(wrap64 (x69_3 + 1)), (by first | rfl | (simp; done) | (simp [*]; done)), H', ⟨by have := HJ6.out; have := HJ19.out; have := HK3.out; have := HJ43.out; omega⟩, ⟨by (with_reducible repeat (first | refine blk_drewN ?_ _ | refine blk_drew ?_ | refine blk_alloc ?_ _)); exact BK247.out⟩, ⟨by (with_reducible repeat (first | refine blk_drewN ?_ _ | refine blk_drew ?_ | refine blk_alloc ?_ _)); exact BK248.out⟩, ⟨by repeat (first | (with_reducible first | exact HB.out | apply below_alloc | apply pw_below_drewN | apply below_drew1 | refine below_set ?_ GE247.out | refine below_set ?_ GE248.out | refine below_set ?_ GE255.out) | exact HB.out)⟩⟩
       subst c62
       have H1 : ((maskref4_beside.f a2_3 ((rd_T96 l1 x69_3).f3)).bind fun t257 => (if t257 = true then (some 15) else (maskref4_portFault.l0 kj43 l1 (l1.length : Int) (wrap64 (x69_3 + 1)) a0_0 a0_1 a0_2 l0_3 l0_4 l0_5 a2_0 a2_1 a2_2 a2_3))) = some r := by rw [if_pos rfl] at H; exact H
       clear H
       have H := H1
       clear H1
       replace H := Option.bind_eq_some_iff.mp H
       obtain ⟨t257, A630, H⟩ := H
       replace H : (if t257 = true then (some 15) else (maskref4_portFault.l0 kj43 l1 (l1.length : Int) (wrap64 (x69_3 + 1)) a0_0 a0_1 a0_2 l0_3 l0_4 l0_5 a2_0 a2_1 a2_2 a2_3)) = some r := H
       have A63 := Aside0.mk A630
       clear A630
       by_cases c64 : t257 = true
       · subst c64
         have H1 : (some 15) = some r := by rw [if_pos rfl] at H; exact H
         clear H
         have H := H1
         clear H1
         obtain rfl := Option.some.inj H
         have hcz67_2 : wc.cell? ⟨gb248, 2, none⟩ = some (.int .i64 a2_2) := (blk_cell BK248.out 2).trans rfl
         have hcz67_3 : wc.cell? ⟨gb248, 3, none⟩ = some (.int .i64 a2_3) := (blk_cell BK248.out 3).trans rfl
         have hcz69_2 : wc.cell? ⟨gb255, 2, none⟩ = some (.int .i64 ((rd_T96 l1 x69_3).f2)) := (blk_cell BK255.out 2).trans rfl
         have hcz69_3 : wc.cell? ⟨gb255, 3, none⟩ = some (.int .i64 ((rd_T96 l1 x69_3).f3)) := (blk_cell BK255.out 3).trans rfl
         go_wp2_with (first | ((with_reducible refine gate_callee (f := 60) rfl ?_); refine goesL_ (some 89) rfl rfl Try.func60 (by kernel_rfl) rfl #[.int .i64 a2_2, .int .i64 ((rd_T96 l1 x69_3).f2)] rfl (by (try simp only [List.map_toArray, List.map_cons, List.map_nil]); first | done | rfl | (simp only [List.length_drop, List.length_take]; rfl)) ?_; (with_reducible refine (maskref4_beside.calls a2_2 ((rd_T96 l1 x69_3).f2) true _ A61.out).mono ?_); rintro e w' ⟨rfl, ⟨nd, rfl⟩⟩; refine ⟨_, rfl, ?_⟩) | (go_at_call 60; (with_reducible refine (maskref4_beside.calls a2_3 ((rd_T96 l1 x69_3).f3) true _ A63.out).mono ?_); rintro e w' ⟨rfl, ⟨nd, rfl⟩⟩))
         go_ret
         exact ⟨by first | rfl | (simp [errW_none, errW_some] <;> rfl) | (simp [*, errW_none, errW_some] <;> rfl), by repeat (first | (with_reducible first | exact HB.out | apply below_alloc | apply pw_below_drewN | apply below_drew1 | refine below_set ?_ GE247.out | refine below_set ?_ GE248.out | refine below_set ?_ GE255.out) | exact HB.out)⟩
       replace c64 := Bool.eq_false_iff.mpr c64
       subst c64
       have H1 : (maskref4_portFault.l0 kj43 l1 (l1.length : Int) (wrap64 (x69_3 + 1)) a0_0 a0_1 a0_2 l0_3 l0_4 l0_5 a2_0 a2_1 a2_2 a2_3) = some r := by rw [if_neg (show ¬ (false = true) by decide)] at H; exact H
       clear H
       have H := H1
       clear H1
       have H' := Aside0.mk H
       clear H
       have hcz72_2 : wc.cell? ⟨gb248, 2, none⟩ = some (.int .i64 a2_2) := (blk_cell BK248.out 2).trans rfl
       have hcz72_3 : wc.cell? ⟨gb248, 3, none⟩ = some (.int .i64 a2_3) := (blk_cell BK248.out 3).trans rfl
       have hcz74_2 : wc.cell? ⟨gb255, 2, none⟩ = some (.int .i64 ((rd_T96 l1 x69_3).f2)) := (blk_cell BK255.out 2).trans rfl
       have hcz74_3 : wc.cell? ⟨gb255, 3, none⟩ = some (.int .i64 ((rd_T96 l1 x69_3).f3)) := (blk_cell BK255.out 3).trans rfl
       go_wp2_with (first | ((with_reducible refine gate_callee (f := 60) rfl ?_); refine goesL_ (some 89) rfl rfl Try.func60 (by kernel_rfl) rfl #[.int .i64 a2_2, .int .i64 ((rd_T96 l1 x69_3).f2)] rfl (by (try simp only [List.map_toArray, List.map_cons, List.map_nil]); first | done | rfl | (simp only [List.length_drop, List.length_take]; rfl)) ?_; (with_reducible refine (maskref4_beside.calls a2_2 ((rd_T96 l1 x69_3).f2) true _ A61.out).mono ?_); rintro e w' ⟨rfl, ⟨nd, rfl⟩⟩; refine ⟨_, rfl, ?_⟩) | (go_at_call 60; (with_reducible refine (maskref4_beside.calls a2_3 ((rd_T96 l1 x69_3).f3) false _ A63.out).mono ?_); rintro e w' ⟨rfl, ⟨nd, rfl⟩⟩))
       go_roundg kj43
       case measure => have := HJ6.out; have := HJ19.out; have := HK3.out; have := HJ43.out; omega
       case rel => exact ⟨(wrap64 (x69_3 + 1)), (by first | rfl | (simp; done) | (simp [*]; done)), H', ⟨by have := HJ6.out; have := HJ19.out; have := HK3.out; have := HJ43.out; omega⟩, ⟨by (with_reducible repeat (first | refine blk_drewN ?_ _ | refine blk_drew ?_ | refine blk_alloc ?_ _)); exact BK247.out⟩, ⟨by (with_reducible repeat (first | refine blk_drewN ?_ _ | refine blk_drew ?_ | refine blk_alloc ?_ _)); exact BK248.out⟩, ⟨by repeat (first | (with_reducible first | exact HB.out | apply below_alloc | apply pw_below_drewN | apply below_drew1 | refine below_set ?_ GE247.out | refine below_set ?_ GE248.out | refine below_set ?_ GE255.out) | exact HB.out)⟩⟩
    rw [if_neg c41] at H
    have c41b0 : decide (x69_3 < (l1.length : Int)) = false := decide_eq_false c41
    clear c41
    have H' := Aside0.mk H
    clear H
    have hcz81_0 : wr.cell? ⟨gb247, 0, none⟩ = some (.int .i64 a0_0) := (blk_cell BK247.out 0).trans rfl
    have hcz81_1 : wr.cell? ⟨gb247, 1, none⟩ = some (.int .i64 a0_1) := (blk_cell BK247.out 1).trans rfl
    have hcz81_2 : wr.cell? ⟨gb247, 2, none⟩ = some (.int .i64 a0_2) := (blk_cell BK247.out 2).trans rfl
    have hcz81_3 : wr.cell? ⟨gb247, 3, none⟩ = some (.slice A0_3 l0_3.length c0_3) := (blk_cell BK247.out 3).trans rfl
    have hcz81_4 : wr.cell? ⟨gb247, 4, none⟩ = some (.slice A0_4 l0_4.length c0_4) := (blk_cell BK247.out 4).trans rfl
    have hcz81_5 : wr.cell? ⟨gb247, 5, none⟩ = some (.slice A0_5 l0_5.length c0_5) := (blk_cell BK247.out 5).trans rfl
    have hfz81_0 := blk_frozen BK247.out 0
    have hfz81_1 := blk_frozen BK247.out 1
    have hfz81_2 := blk_frozen BK247.out 2
    have hfz81_3 := blk_frozen BK247.out 3
    have hfz81_4 := blk_frozen BK247.out 4
    have hfz81_5 := blk_frozen BK247.out 5
    go_wp2
    go_loopg [101] k3 (fun kq v101 w' => ∃ (x101_4 : Int), v101 = .int .i64 x101_4 ∧ Aside0 (maskref4_portFault.l1 kq l0_4 (l0_4.length : Int) x101_4 a2_0 a2_1 a2_2 a2_3 = some r) ∧ Aside0 (kq ≤ k3) ∧ Aside0 (w'.heap[gb247]? = some (.cells #[.int .i64 a0_0, .int .i64 a0_1, .int .i64 a0_2, (.slice A0_3 l0_3.length c0_3), (.slice A0_4 l0_4.length c0_4), (.slice A0_5 l0_5.length c0_5)] 57 (0, 0))) ∧ Aside0 (w'.heap[gb248]? = some (.cells #[.string a2_0, .bool a2_1, .int .i64 a2_2, .int .i64 a2_3] 96 (0, 0))) ∧ Aside0 (Below w.heap.size w w'))
    case atStart => exact ⟨(0), (by first | rfl | (simp; done) | (simp [*]; done)), H', ⟨Nat.le_refl _⟩, ⟨by (with_reducible repeat (first | refine blk_drewN ?_ _ | refine blk_drew ?_ | refine blk_alloc ?_ _)); exact BK247.out⟩, ⟨by (with_reducible repeat (first | refine blk_drewN ?_ _ | refine blk_drew ?_ | refine blk_alloc ?_ _)); exact BK248.out⟩, ⟨by repeat (first | (with_reducible first | exact HB.out | apply below_alloc | apply pw_below_drewN | apply below_drew1 | refine below_set ?_ GE247.out | refine below_set ?_ GE248.out) | exact HB.out)⟩⟩
    clear H'
    clear c41b0 hcz81_0 hcz81_1 hcz81_2 hcz81_3 hcz81_4 hcz81_5 hfz81_0 hfz81_1 hfz81_2 hfz81_3 hfz81_4 hfz81_5
    obtain ⟨x101_4, rfl, HA, HK4, BK247, BK248, HB⟩ := hrel
    cases gk with
    | zero => exact absurd HA.out (by simp [maskref4_portFault.l1])
    | succ k4 =>
     have H := HA.out
     clear HA
     simp only [maskref4_portFault.l1] at H
     by_cases c82 : x101_4 < (l0_4.length : Int)
     rotate_left
     · rw [if_neg c82] at H
       have c82b0 : decide (x101_4 < (l0_4.length : Int)) = false := decide_eq_false c82
       clear c82
       obtain rfl := Option.some.inj H
       go_wp2
       go_ret
       exact ⟨by first | rfl | (simp [errW_none, errW_some] <;> rfl) | (simp [*, errW_none, errW_some] <;> rfl), by repeat (first | (with_reducible first | exact HB.out | apply below_alloc | apply pw_below_drewN | apply below_drew1 | refine below_set ?_ GE247.out | refine below_set ?_ GE248.out) | exact HB.out)⟩
     rw [if_pos c82] at H
     have c82b0 : decide (x101_4 < (l0_4.length : Int)) = true := decide_eq_true c82
     clear c82
     by_cases c83 : 0 ≤ x101_4
     rotate_left
     · rw [if_neg c83] at H
       exact absurd H (by simp)
     rw [if_pos c83] at H
     have c83b0 : decide (0 ≤ x101_4) = true := decide_eq_true c83
     clear c83
     by_cases c84 : x101_4 < (l0_4.length : Int)
     rotate_left
     · rw [if_neg c84] at H
       exact absurd H (by simp)
     rw [if_pos c84] at H
     have c84b0 : decide (x101_4 < (l0_4.length : Int)) = true := decide_eq_true c84
     clear c84
     by_cases c85 : ((rd_T100 l0_4 x101_4).f0) = 0
     rotate_left
     · rw [if_neg c85] at H
       have c85b0 : (((rd_T100 l0_4 x101_4).f0) == 0) = false := beq_eq_false_iff_ne.mpr c85
       have H' := Aside0.mk H
       clear H
       have p258 : 0 ≤ (x101_4 : Int) := of_decide_eq_true (by first | (with_reducible assumption) | assumption)
       have q258 : x101_4 < (l0_4.length : Int) := of_decide_eq_true (by first | (with_reducible assumption) | assumption)
       obtain ⟨ad258, e258, hx258_0, hx258_1, hx258_2, hx258_3, hx258_4⟩ := at_T100 HR0_4.out x101_4 p258 q258
       cases e258
       replace hx258_0 := (HB.out.cell (World.block_lt_of_cell? w _ hx258_0)).trans hx258_0
       replace hx258_1 := (HB.out.cell (World.block_lt_of_cell? w _ hx258_1)).trans hx258_1
       replace hx258_2 := (HB.out.cell (World.block_lt_of_cell? w _ hx258_2)).trans hx258_2
       replace hx258_3 := (HB.out.cell (World.block_lt_of_cell? w _ hx258_3)).trans hx258_3
       replace hx258_4 := (HB.out.cell (World.block_lt_of_cell? w _ hx258_4)).trans hx258_4
       replace p258 := eq_true p258
       replace q258 := eq_true q258
       go_wp2_with ((with_reducible refine gate_dst (N := 12) rfl ?_); refine box_event ?hg (N := 12) ?hd (cs := #[.int .i64 0, .int .i64 0, .int .i64 0, .int .i64 0, .int .i64 0]) (t := 100) ?hr ?_; (case hd => rfl); (case hg => rfl); (case hr => first | (go_simp; done) | (go_simp; rfl)); intro gb259 hg w108 hbox hb; have n0_ := Aside0.mk (blk_below (g := gb247) (o := .cells #[.int .i64 a0_0, .int .i64 a0_1, .int .i64 a0_2, .slice A0_3 l0_3.length c0_3, .slice (some ad258) l0_4.length c0_4, .slice A0_5 l0_5.length c0_5] 57 (0, 0)) (by (with_reducible repeat (first | refine blk_drewN ?_ _ | refine blk_drew ?_ | refine blk_alloc ?_ _)); exact BK247.out) hb); have n1_ := Aside0.mk (blk_below (g := gb248) (o := .cells #[.string a2_0, .bool a2_1, .int .i64 a2_2, .int .i64 a2_3] 96 (0, 0)) (by (with_reducible repeat (first | refine blk_drewN ?_ _ | refine blk_drew ?_ | refine blk_alloc ?_ _)); exact BK248.out) hb); have n2_ := Aside0.mk (below_step (by repeat (first | (with_reducible first | exact HB.out | apply below_alloc | apply pw_below_drewN | apply below_drew1 | refine below_set ?_ GE247.out | refine below_set ?_ GE248.out) | exact HB.out)) hb); have n3_ := Aside0.mk (hbox); have n4_ := Aside0.mk ((by rw [hg]; exact (below_size (by repeat (first | (with_reducible first | exact HB.out | apply below_alloc | apply pw_below_drewN | apply below_drew1 | refine below_set ?_ GE247.out | refine below_set ?_ GE248.out) | exact HB.out))) : w.heap.size ≤ gb259)); have n5_ := Aside0.mk ((by rw [hg]; exact (below_size (by repeat (first | (with_reducible first | exact HB.out | apply below_alloc | apply pw_below_drewN | apply below_drew1 | refine below_set ?_ GE247.out | refine below_set ?_ GE248.out) | exact HB.out))) : w.heap.size ≤ gb259)); have n6_ := Aside0.mk ((by rw [hg]; exact Nat.ne_of_lt (blk_lt (g := gb247) (o := .cells #[.int .i64 a0_0, .int .i64 a0_1, .int .i64 a0_2, .slice A0_3 l0_3.length c0_3, .slice (some ad258) l0_4.length c0_4, .slice A0_5 l0_5.length c0_5] 57 (0, 0)) (by (with_reducible repeat (first | refine blk_drewN ?_ _ | refine blk_drew ?_ | refine blk_alloc ?_ _)); exact BK247.out)) : gb247 ≠ gb259)); have n7_ := Aside0.mk ((by rw [hg]; exact Nat.ne_of_gt (blk_lt (g := gb247) (o := .cells #[.int .i64 a0_0, .int .i64 a0_1, .int .i64 a0_2, .slice A0_3 l0_3.length c0_3, .slice (some ad258) l0_4.length c0_4, .slice A0_5 l0_5.length c0_5] 57 (0, 0)) (by (with_reducible repeat (first | refine blk_drewN ?_ _ | refine blk_drew ?_ | refine blk_alloc ?_ _)); exact BK247.out)) : gb259 ≠ gb247)); have n8_ := Aside0.mk ((by rw [hg]; exact Nat.ne_of_lt (blk_lt (g := gb248) (o := .cells #[.string a2_0, .bool a2_1, .int .i64 a2_2, .int .i64 a2_3] 96 (0, 0)) (by (with_reducible repeat (first | refine blk_drewN ?_ _ | refine blk_drew ?_ | refine blk_alloc ?_ _)); exact BK248.out)) : gb248 ≠ gb259)); have n9_ := Aside0.mk ((by rw [hg]; exact Nat.ne_of_gt (blk_lt (g := gb248) (o := .cells #[.string a2_0, .bool a2_1, .int .i64 a2_2, .int .i64 a2_3] 96 (0, 0)) (by (with_reducible repeat (first | refine blk_drewN ?_ _ | refine blk_drew ?_ | refine blk_alloc ?_ _)); exact BK248.out)) : gb259 ≠ gb248)); clear BK247; clear BK248; clear HB; have BK247 := n0_; have BK248 := n1_; have HB := n2_; have BK259 := n3_; have GE259 := n5_; have NB247_259 := n6_; have NB259_247 := n7_; have NB248_259 := n8_; have NB259_248 := n9_; clear n0_ n1_ n2_ n3_ n4_ n5_ n6_ n7_ n8_ n9_; clear hb hbox hg; have hcz111_0 : w108.cell? ⟨gb259, 0, none⟩ = some (.int .i64 0) := (blk_cell BK259.out 0).trans rfl; have hcz111_1 : w108.cell? ⟨gb259, 1, none⟩ = some (.int .i64 0) := (blk_cell BK259.out 1).trans rfl; have hcz111_2 : w108.cell? ⟨gb259, 2, none⟩ = some (.int .i64 0) := (blk_cell BK259.out 2).trans rfl; have hcz111_3 : w108.cell? ⟨gb259, 3, none⟩ = some (.int .i64 0) := (blk_cell BK259.out 3).trans rfl; have hcz111_4 : w108.cell? ⟨gb259, 4, none⟩ = some (.int .i64 0) := (blk_cell BK259.out 4).trans rfl; have hfz111_0 := blk_frozen BK259.out 0; have hfz111_1 := blk_frozen BK259.out 1; have hfz111_2 := blk_frozen BK259.out 2; have hfz111_3 := blk_frozen BK259.out 3; have hfz111_4 := blk_frozen BK259.out 4)
       go_roundg k4
       case measure => have := HJ6.out; have := HJ19.out; have := HK3.out; have := HK4.out; omega
       case rel => exact ⟨(wrap64 (x101_4 + 1)), (by first | rfl | (simp; done) | (simp [*]; done)), H', ⟨by have := HJ6.out; have := HJ19.out; have := HK3.out; have := HK4.out; omega⟩, ⟨by (with_reducible repeat (first | refine blk_drewN ?_ _ | refine blk_drew ?_ | refine blk_alloc ?_ _)); refine blk_far ?_ NB247_259.out _; (with_reducible repeat (first | refine blk_drewN ?_ _ | refine blk_drew ?_ | refine blk_alloc ?_ _)); refine blk_far ?_ NB247_259.out _; (with_reducible repeat (first | refine blk_drewN ?_ _ | refine blk_drew ?_ | refine blk_alloc ?_ _)); refine blk_far ?_ NB247_259.out _; (with_reducible repeat (first | refine blk_drewN ?_ _ | refine blk_drew ?_ | refine blk_alloc ?_ _)); refine blk_far ?_ NB247_259.out _; (with_reducible repeat (first | refine blk_drewN ?_ _ | refine blk_drew ?_ | refine blk_alloc ?_ _)); refine blk_far ?_ NB247_259.out _; (with_reducible repeat (first | refine blk_drewN ?_ _ | refine blk_drew ?_ | refine blk_alloc ?_ _)); exact BK247.out⟩, ⟨by (with_reducible repeat (first | refine blk_drewN ?_ _ | refine blk_drew ?_ | refine blk_alloc ?_ _)); refine blk_far ?_ NB248_259.out _; (with_reducible repeat (first | refine blk_drewN ?_ _ | refine blk_drew ?_ | refine blk_alloc ?_ _)); refine blk_far ?_ NB248_259.out _; (with_reducible repeat (first | refine blk_drewN ?_ _ | refine blk_drew ?_ | refine blk_alloc ?_ _)); refine blk_far ?_ NB248_259.out _; (with_reducible repeat (first | refine blk_drewN ?_ _ | refine blk_drew ?_ | refine blk_alloc ?_ _)); refine blk_far ?_ NB248_259.out _; (with_reducible repeat (first | refine blk_drewN ?_ _ | refine blk_drew ?_ | refine blk_alloc ?_ _)); refine blk_far ?_ NB248_259.out _; (with_reducible repeat (first | refine blk_drewN ?_ _ | refine blk_drew ?_ | refine blk_alloc ?_ _)); exact BK248.out⟩, ⟨by repeat (first | (with_reducible first | exact HB.out | apply below_alloc | apply pw_below_drewN | apply below_drew1 | refine below_set ?_ GE247.out | refine below_set ?_ GE248.out | refine below_set ?_ GE259.out) | exact HB.out)⟩⟩
     rw [if_pos c85] at H
     have c85b0 : (((rd_T100 l0_4 x101_4).f0) == 0) = true := beq_iff_eq.mpr c85
     clear c85
     replace H := Option.bind_eq_some_iff.mp H
     obtain ⟨t260, A860, H⟩ := H
     replace H : (if t260 = true then ((maskref4_In.f a2_3 ((rd_T100 l0_4 x101_4).f2) ((rd_T100 l0_4 x101_4).f4)).bind fun t261 => (if t261 = true then (some 15) else (maskref4_portFault.l1 k4 l0_4 (l0_4.length : Int) (wrap64 (x101_4 + 1)) a2_0 a2_1 a2_2 a2_3))) else (maskref4_portFault.l1 k4 l0_4 (l0_4.length : Int) (wrap64 (x101_4 + 1)) a2_0 a2_1 a2_2 a2_3)) = some r := H
     have A86 := Aside0.mk A860
     clear A860
     by_cases c87 : t260 = true
     rotate_left
     · replace c87 := Bool.eq_false_iff.mpr c87
       subst c87
       have H1 : (maskref4_portFault.l1 k4 l0_4 (l0_4.length : Int) (wrap64 (x101_4 + 1)) a2_0 a2_1 a2_2 a2_3) = some r := by rw [if_neg (show ¬ (false = true) by decide)] at H; exact H
       clear H
       have H := H1
       clear H1
       have H' := Aside0.mk H
       clear H
       have p258 : 0 ≤ (x101_4 : Int) := of_decide_eq_true (by first | (with_reducible assumption) | assumption)
       have q258 : x101_4 < (l0_4.length : Int) := of_decide_eq_true (by first | (with_reducible assumption) | assumption)
       obtain ⟨ad258, e258, hx258_0, hx258_1, hx258_2, hx258_3, hx258_4⟩ := at_T100 HR0_4.out x101_4 p258 q258
       cases e258
       replace hx258_0 := (HB.out.cell (World.block_lt_of_cell? w _ hx258_0)).trans hx258_0
       replace hx258_1 := (HB.out.cell (World.block_lt_of_cell? w _ hx258_1)).trans hx258_1
       replace hx258_2 := (HB.out.cell (World.block_lt_of_cell? w _ hx258_2)).trans hx258_2
       replace hx258_3 := (HB.out.cell (World.block_lt_of_cell? w _ hx258_3)).trans hx258_3
       replace hx258_4 := (HB.out.cell (World.block_lt_of_cell? w _ hx258_4)).trans hx258_4
       replace p258 := eq_true p258
       replace q258 := eq_true q258
       go_wp2_with (first | ((with_reducible refine gate_dst (N := 12) rfl ?_); refine box_event ?hg (N := 12) ?hd (cs := #[.int .i64 0, .int .i64 0, .int .i64 0, .int .i64 0, .int .i64 0]) (t := 100) ?hr ?_; (case hd => rfl); (case hg => rfl); (case hr => first | (go_simp; done) | (go_simp; rfl)); intro gb259 hg w102 hbox hb; have n0_ := Aside0.mk (blk_below (g := gb247) (o := .cells #[.int .i64 a0_0, .int .i64 a0_1, .int .i64 a0_2, .slice A0_3 l0_3.length c0_3, .slice (some ad258) l0_4.length c0_4, .slice A0_5 l0_5.length c0_5] 57 (0, 0)) (by (with_reducible repeat (first | refine blk_drewN ?_ _ | refine blk_drew ?_ | refine blk_alloc ?_ _)); exact BK247.out) hb); have n1_ := Aside0.mk (blk_below (g := gb248) (o := .cells #[.string a2_0, .bool a2_1, .int .i64 a2_2, .int .i64 a2_3] 96 (0, 0)) (by (with_reducible repeat (first | refine blk_drewN ?_ _ | refine blk_drew ?_ | refine blk_alloc ?_ _)); exact BK248.out) hb); have n2_ := Aside0.mk (below_step (by repeat (first | (with_reducible first | exact HB.out | apply below_alloc | apply pw_below_drewN | apply below_drew1 | refine below_set ?_ GE247.out | refine below_set ?_ GE248.out) | exact HB.out)) hb); have n3_ := Aside0.mk (hbox); have n4_ := Aside0.mk ((by rw [hg]; exact (below_size (by repeat (first | (with_reducible first | exact HB.out | apply below_alloc | apply pw_below_drewN | apply below_drew1 | refine below_set ?_ GE247.out | refine below_set ?_ GE248.out) | exact HB.out))) : w.heap.size ≤ gb259)); have n5_ := Aside0.mk ((by rw [hg]; exact (below_size (by repeat (first | (with_reducible first | exact HB.out | apply below_alloc | apply pw_below_drewN | apply below_drew1 | refine below_set ?_ GE247.out | refine below_set ?_ GE248.out) | exact HB.out))) : w.heap.size ≤ gb259)); have n6_ := Aside0.mk ((by rw [hg]; exact Nat.ne_of_lt (blk_lt (g := gb247) (o := .cells #[.int .i64 a0_0, .int .i64 a0_1, .int .i64 a0_2, .slice A0_3 l0_3.length c0_3, .slice (some ad258) l0_4.length c0_4, .slice A0_5 l0_5.length c0_5] 57 (0, 0)) (by (with_reducible repeat (first | refine blk_drewN ?_ _ | refine blk_drew ?_ | refine blk_alloc ?_ _)); exact BK247.out)) : gb247 ≠ gb259)); have n7_ := Aside0.mk ((by rw [hg]; exact Nat.ne_of_gt (blk_lt (g := gb247) (o := .cells #[.int .i64 a0_0, .int .i64 a0_1, .int .i64 a0_2, .slice A0_3 l0_3.length c0_3, .slice (some ad258) l0_4.length c0_4, .slice A0_5 l0_5.length c0_5] 57 (0, 0)) (by (with_reducible repeat (first | refine blk_drewN ?_ _ | refine blk_drew ?_ | refine blk_alloc ?_ _)); exact BK247.out)) : gb259 ≠ gb247)); have n8_ := Aside0.mk ((by rw [hg]; exact Nat.ne_of_lt (blk_lt (g := gb248) (o := .cells #[.string a2_0, .bool a2_1, .int .i64 a2_2, .int .i64 a2_3] 96 (0, 0)) (by (with_reducible repeat (first | refine blk_drewN ?_ _ | refine blk_drew ?_ | refine blk_alloc ?_ _)); exact BK248.out)) : gb248 ≠ gb259)); have n9_ := Aside0.mk ((by rw [hg]; exact Nat.ne_of_gt (blk_lt (g := gb248) (o := .cells #[.string a2_0, .bool a2_1, .int .i64 a2_2, .int .i64 a2_3] 96 (0, 0)) (by (with_reducible repeat (first | refine blk_drewN ?_ _ | refine blk_drew ?_ | refine blk_alloc ?_ _)); exact BK248.out)) : gb259 ≠ gb248)); clear BK247; clear BK248; clear HB; have BK247 := n0_; have BK248 := n1_; have HB := n2_; have BK259 := n3_; have GE259 := n5_; have NB247_259 := n6_; have NB259_247 := n7_; have NB248_259 := n8_; have NB259_248 := n9_; clear n0_ n1_ n2_ n3_ n4_ n5_ n6_ n7_ n8_ n9_; clear hb hbox hg; have hnc104 := NB248_259.out; have hcz105_0 : w102.cell? ⟨gb259, 0, none⟩ = some (.int .i64 0) := (blk_cell BK259.out 0).trans rfl; have hcz105_1 : w102.cell? ⟨gb259, 1, none⟩ = some (.int .i64 0) := (blk_cell BK259.out 1).trans rfl; have hcz105_2 : w102.cell? ⟨gb259, 2, none⟩ = some (.int .i64 0) := (blk_cell BK259.out 2).trans rfl; have hcz105_3 : w102.cell? ⟨gb259, 3, none⟩ = some (.int .i64 0) := (blk_cell BK259.out 3).trans rfl; have hcz105_4 : w102.cell? ⟨gb259, 4, none⟩ = some (.int .i64 0) := (blk_cell BK259.out 4).trans rfl; have hfz105_0 := blk_frozen BK259.out 0; have hfz105_1 := blk_frozen BK259.out 1; have hfz105_2 := blk_frozen BK259.out 2; have hfz105_3 := blk_frozen BK259.out 3; have hfz105_4 := blk_frozen BK259.out 4; have hnb106 := NB248_247.out; have hnc106 := NB247_248.out; have hcz107_2 : w102.cell? ⟨gb248, 2, none⟩ = some (.int .i64 a2_2) := (blk_cell BK248.out 2).trans rfl; have hfz107_3 := blk_frozen BK248.out 3) | (go_at_call 16; (with_reducible refine (maskref4_In.calls a2_2 ((rd_T100 l0_4 x101_4).f1) ((rd_T100 l0_4 x101_4).f3) false _ A86.out).mono ?_); rintro e w' ⟨rfl, ⟨nd, rfl⟩⟩))
       go_roundg k4
       case measure => have := HJ6.out; have := HJ19.out; have := HK3.out; have := HK4.out; omega
       case rel => exact ⟨(wrap64 (x101_4 + 1)), (by first | rfl | (simp; done) | (simp [*]; done)), H', ⟨by have := HJ6.out; have := HJ19.out; have := HK3.out; have := HK4.out; omega⟩, ⟨by (with_reducible repeat (first | refine blk_drewN ?_ _ | refine blk_drew ?_ | refine blk_alloc ?_ _)); refine blk_far ?_ NB247_259.out _; (with_reducible repeat (first | refine blk_drewN ?_ _ | refine blk_drew ?_ | refine blk_alloc ?_ _)); refine blk_far ?_ NB247_259.out _; (with_reducible repeat (first | refine blk_drewN ?_ _ | refine blk_drew ?_ | refine blk_alloc ?_ _)); refine blk_far ?_ NB247_259.out _; (with_reducible repeat (first | refine blk_drewN ?_ _ | refine blk_drew ?_ | refine blk_alloc ?_ _)); refine blk_far ?_ NB247_259.out _; (with_reducible repeat (first | refine blk_drewN ?_ _ | refine blk_drew ?_ | refine blk_alloc ?_ _)); refine blk_far ?_ NB247_259.out _; (with_reducible repeat (first | refine blk_drewN ?_ _ | refine blk_drew ?_ | refine blk_alloc ?_ _)); exact BK247.out⟩, ⟨by (with_reducible repeat (first | refine blk_drewN ?_ _ | refine blk_drew ?_ | refine blk_alloc ?_ _)); refine blk_far ?_ NB248_259.out _; (with_reducible repeat (first | refine blk_drewN ?_ _ | refine blk_drew ?_ | refine blk_alloc ?_ _)); refine blk_far ?_ NB248_259.out _; (with_reducible repeat (first | refine blk_drewN ?_ _ | refine blk_drew ?_ | refine blk_alloc ?_ _)); refine blk_far ?_ NB248_259.out _; (with_reducible repeat (first | refine blk_drewN ?_ _ | refine blk_drew ?_ | refine blk_alloc ?_ _)); refine blk_far ?_ NB248_259.out _; (with_reducible repeat (first | refine blk_drewN ?_ _ | refine blk_drew ?_ | refine blk_alloc ?_ _)); refine blk_far ?_ NB248_259.out _; (with_reducible repeat (first | refine blk_drewN ?_ _ | refine blk_drew ?_ | refine blk_alloc ?_ _)); exact BK248.out⟩, ⟨by repeat (first | (with_reducible first | exact HB.out | apply below_alloc | apply pw_below_drewN | apply below_drew1 | refine below_set ?_ GE247.out | refine below_set ?_ GE248.out | refine below_set ?_ GE259.out) | exact HB.out)⟩⟩
     subst c87
     have H1 : ((maskref4_In.f a2_3 ((rd_T100 l0_4 x101_4).f2) ((rd_T100 l0_4 x101_4).f4)).bind fun t261 => (if t261 = true then (some 15) else (maskref4_portFault.l1 k4 l0_4 (l0_4.length : Int) (wrap64 (x101_4 + 1)) a2_0 a2_1 a2_2 a2_3))) = some r := by rw [if_pos rfl] at H; exact H
     clear H
     have H := H1
     clear H1
     replace H := Option.bind_eq_some_iff.mp H
     obtain ⟨t261, A880, H⟩ := H
     replace H : (if t261 = true then (some 15) else (maskref4_portFault.l1 k4 l0_4 (l0_4.length : Int) (wrap64 (x101_4 + 1)) a2_0 a2_1 a2_2 a2_3)) = some r := H
     have A88 := Aside0.mk A880
     clear A880
     by_cases c89 : t261 = true
     · subst c89
       have H1 : (some 15) = some r := by rw [if_pos rfl] at H; exact H
       clear H
       have H := H1
       clear H1
       obtain rfl := Option.some.inj H
       have p258 : 0 ≤ (x101_4 : Int) := of_decide_eq_true (by first | (with_reducible assumption) | assumption)
       have q258 : x101_4 < (l0_4.length : Int) := of_decide_eq_true (by first | (with_reducible assumption) | assumption)
       obtain ⟨ad258, e258, hx258_0, hx258_1, hx258_2, hx258_3, hx258_4⟩ := at_T100 HR0_4.out x101_4 p258 q258
       cases e258
       replace hx258_0 := (HB.out.cell (World.block_lt_of_cell? w _ hx258_0)).trans hx258_0
       replace hx258_1 := (HB.out.cell (World.block_lt_of_cell? w _ hx258_1)).trans hx258_1
       replace hx258_2 := (HB.out.cell (World.block_lt_of_cell? w _ hx258_2)).trans hx258_2
       replace hx258_3 := (HB.out.cell (World.block_lt_of_cell? w _ hx258_3)).trans hx258_3
       replace hx258_4 := (HB.out.cell (World.block_lt_of_cell? w _ hx258_4)).trans hx258_4
       replace p258 := eq_true p258
       replace q258 := eq_true q258
       go_wp2_with (first | ((with_reducible refine gate_dst (N := 12) rfl ?_); refine box_event ?hg (N := 12) ?hd (cs := #[.int .i64 0, .int .i64 0, .int .i64 0, .int .i64 0, .int .i64 0]) (t := 100) ?hr ?_; (case hd => rfl); (case hg => rfl); (case hr => first | (go_simp; done) | (go_simp; rfl)); intro gb259 hg w90 hbox hb; have n0_ := Aside0.mk (blk_below (g := gb247) (o := .cells #[.int .i64 a0_0, .int .i64 a0_1, .int .i64 a0_2, .slice A0_3 l0_3.length c0_3, .slice (some ad258) l0_4.length c0_4, .slice A0_5 l0_5.length c0_5] 57 (0, 0)) (by (with_reducible repeat (first | refine blk_drewN ?_ _ | refine blk_drew ?_ | refine blk_alloc ?_ _)); exact BK247.out) hb); have n1_ := Aside0.mk (blk_below (g := gb248) (o := .cells #[.string a2_0, .bool a2_1, .int .i64 a2_2, .int .i64 a2_3] 96 (0, 0)) (by (with_reducible repeat (first | refine blk_drewN ?_ _ | refine blk_drew ?_ | refine blk_alloc ?_ _)); exact BK248.out) hb); have n2_ := Aside0.mk (below_step (by repeat (first | (with_reducible first | exact HB.out | apply below_alloc | apply pw_below_drewN | apply below_drew1 | refine below_set ?_ GE247.out | refine below_set ?_ GE248.out) | exact HB.out)) hb); have n3_ := Aside0.mk (hbox); have n4_ := Aside0.mk ((by rw [hg]; exact (below_size (by repeat (first | (with_reducible first | exact HB.out | apply below_alloc | apply pw_below_drewN | apply below_drew1 | refine below_set ?_ GE247.out | refine below_set ?_ GE248.out) | exact HB.out))) : w.heap.size ≤ gb259)); have n5_ := Aside0.mk ((by rw [hg]; exact (below_size (by repeat (first | (with_reducible first | exact HB.out | apply below_alloc | apply pw_below_drewN | apply below_drew1 | refine below_set ?_ GE247.out | refine below_set ?_ GE248.out) | exact HB.out))) : w.heap.size ≤ gb259)); have n6_ := Aside0.mk ((by rw [hg]; exact Nat.ne_of_lt (blk_lt (g := gb247) (o := .cells #[.int .i64 a0_0, .int .i64 a0_1, .int .i64 a0_2, .slice A0_3 l0_3.length c0_3, .slice (some ad258) l0_4.length c0_4, .slice A0_5 l0_5.length c0_5] 57 (0, 0)) (by (with_reducible repeat (first | refine blk_drewN ?_ _ | refine blk_drew ?_ | refine blk_alloc ?_ _)); exact BK247.out)) : gb247 ≠ gb259)); have n7_ := Aside0.mk ((by rw [hg]; exact Nat.ne_of_gt (blk_lt (g := gb247) (o := .cells #[.int .i64 a0_0, .int .i64 a0_1, .int .i64 a0_2, .slice A0_3 l0_3.length c0_3, .slice (some ad258) l0_4.length c0_4, .slice A0_5 l0_5.length c0_5] 57 (0, 0)) (by (with_reducible repeat (first | refine blk_drewN ?_ _ | refine blk_drew ?_ | refine blk_alloc ?_ _)); exact BK247.out)) : gb259 ≠ gb247)); have n8_ := Aside0.mk ((by rw [hg]; exact Nat.ne_of_lt (blk_lt (g := gb248) (o := .cells #[.string a2_0, .bool a2_1, .int .i64 a2_2, .int .i64 a2_3] 96 (0, 0)) (by (with_reducible repeat (first | refine blk_drewN ?_ _ | refine blk_drew ?_ | refine blk_alloc ?_ _)); exact BK248.out)) : gb248 ≠ gb259)); have n9_ := Aside0.mk ((by rw [hg]; exact Nat.ne_of_gt (blk_lt (g := gb248) (o := .cells #[.string a2_0, .bool a2_1, .int .i64 a2_2, .int .i64 a2_3] 96 (0, 0)) (by (with_reducible repeat (first | refine blk_drewN ?_ _ | refine blk_drew ?_ | refine blk_alloc ?_ _)); exact BK248.out)) : gb259 ≠ gb248)); clear BK247; clear BK248; clear HB; have BK248 := n1_; have HB := n2_; have BK259 := n3_; have GE259 := n5_; have NB247_259 := n6_; have NB259_247 := n7_; have NB248_259 := n8_; have NB259_248 := n9_; clear n0_ n1_ n2_ n3_ n4_ n5_ n6_ n7_ n8_ n9_; clear hb hbox hg; have hnc92 := NB248_259.out; have hcz93_0 : w90.cell? ⟨gb259, 0, none⟩ = some (.int .i64 0) := (blk_cell BK259.out 0).trans rfl; have hcz93_1 : w90.cell? ⟨gb259, 1, none⟩ = some (.int .i64 0) := (blk_cell BK259.out 1).trans rfl; have hcz93_2 : w90.cell? ⟨gb259, 2, none⟩ = some (.int .i64 0) := (blk_cell BK259.out 2).trans rfl; have hcz93_3 : w90.cell? ⟨gb259, 3, none⟩ = some (.int .i64 0) := (blk_cell BK259.out 3).trans rfl; have hcz93_4 : w90.cell? ⟨gb259, 4, none⟩ = some (.int .i64 0) := (blk_cell BK259.out 4).trans rfl; have hfz93_0 := blk_frozen BK259.out 0; have hfz93_1 := blk_frozen BK259.out 1; have hfz93_2 := blk_frozen BK259.out 2; have hfz93_3 := blk_frozen BK259.out 3; have hfz93_4 := blk_frozen BK259.out 4; have hnb94 := NB248_247.out; have hnc94 := NB247_248.out; have hcz95_2 : w90.cell? ⟨gb248, 2, none⟩ = some (.int .i64 a2_2) := (blk_cell BK248.out 2).trans rfl; have hcz95_3 : w90.cell? ⟨gb248, 3, none⟩ = some (.int .i64 a2_3) := (blk_cell BK248.out 3).trans rfl; have hfz95_3 := blk_frozen BK248.out 3) | (go_at_call 16; (with_reducible refine (maskref4_In.calls a2_2 ((rd_T100 l0_4 x101_4).f1) ((rd_T100 l0_4 x101_4).f3) true _ A86.out).mono ?_); rintro e w' ⟨rfl, ⟨nd, rfl⟩⟩) | (go_at_call 16; (with_reducible refine (maskref4_In.calls a2_3 ((rd_T100 l0_4 x101_4).f2) ((rd_T100 l0_4 x101_4).f4) true _ A88.out).mono ?_); rintro e w' ⟨rfl, ⟨nd, rfl⟩⟩))
       go_ret
       exact ⟨by first | rfl | (simp [errW_none, errW_some] <;> rfl) | (simp [*, errW_none, errW_some] <;> rfl), by repeat (first | (with_reducible first | exact HB.out | apply below_alloc | apply pw_below_drewN | apply below_drew1 | refine below_set ?_ GE247.out | refine below_set ?_ GE248.out | refine below_set ?_ GE259.out) | exact HB.out)⟩
     replace c89 := Bool.eq_false_iff.mpr c89
     subst c89
     have H1 : (maskref4_portFault.l1 k4 l0_4 (l0_4.length : Int) (wrap64 (x101_4 + 1)) a2_0 a2_1 a2_2 a2_3) = some r := by rw [if_neg (show ¬ (false = true) by decide)] at H; exact H
     clear H
     have H := H1
     clear H1
     have H' := Aside0.mk H
     clear H
     have p258 : 0 ≤ (x101_4 : Int) := of_decide_eq_true (by first | (with_reducible assumption) | assumption)
     have q258 : x101_4 < (l0_4.length : Int) := of_decide_eq_true (by first | (with_reducible assumption) | assumption)
     obtain ⟨ad258, e258, hx258_0, hx258_1, hx258_2, hx258_3, hx258_4⟩ := at_T100 HR0_4.out x101_4 p258 q258
     cases e258
     replace hx258_0 := (HB.out.cell (World.block_lt_of_cell? w _ hx258_0)).trans hx258_0
     replace hx258_1 := (HB.out.cell (World.block_lt_of_cell? w _ hx258_1)).trans hx258_1
     replace hx258_2 := (HB.out.cell (World.block_lt_of_cell? w _ hx258_2)).trans hx258_2
     replace hx258_3 := (HB.out.cell (World.block_lt_of_cell? w _ hx258_3)).trans hx258_3
     replace hx258_4 := (HB.out.cell (World.block_lt_of_cell? w _ hx258_4)).trans hx258_4
     replace p258 := eq_true p258
     replace q258 := eq_true q258
     go_wp2_with (first | ((with_reducible refine gate_dst (N := 12) rfl ?_); refine box_event ?hg (N := 12) ?hd (cs := #[.int .i64 0, .int .i64 0, .int .i64 0, .int .i64 0, .int .i64 0]) (t := 100) ?hr ?_; (case hd => rfl); (case hg => rfl); (case hr => first | (go_simp; done) | (go_simp; rfl)); intro gb259 hg w96 hbox hb; have n0_ := Aside0.mk (blk_below (g := gb247) (o := .cells #[.int .i64 a0_0, .int .i64 a0_1, .int .i64 a0_2, .slice A0_3 l0_3.length c0_3, .slice (some ad258) l0_4.length c0_4, .slice A0_5 l0_5.length c0_5] 57 (0, 0)) (by (with_reducible repeat (first | refine blk_drewN ?_ _ | refine blk_drew ?_ | refine blk_alloc ?_ _)); exact BK247.out) hb); have n1_ := Aside0.mk (blk_below (g := gb248) (o := .cells #[.string a2_0, .bool a2_1, .int .i64 a2_2, .int .i64 a2_3] 96 (0, 0)) (by (with_reducible repeat (first | refine blk_drewN ?_ _ | refine blk_drew ?_ | refine blk_alloc ?_ _)); exact BK248.out) hb); have n2_ := Aside0.mk (below_step (by repeat (first | (with_reducible first | exact HB.out | apply below_alloc | apply pw_below_drewN | apply below_drew1 | refine below_set ?_ GE247.out | refine below_set ?_ GE248.out) | exact HB.out)) hb); have n3_ := Aside0.mk (hbox); have n4_ := Aside0.mk ((by rw [hg]; exact (below_size (by repeat (first | (with_reducible first | exact HB.out | apply below_alloc | apply pw_below_drewN | apply below_drew1 | refine below_set ?_ GE247.out | refine below_set ?_ GE248.out) | exact HB.out))) : w.heap.size ≤ gb259)); have n5_ := Aside0.mk ((by rw [hg]; exact (below_size (by repeat (first | (with_reducible first | exact HB.out | apply below_alloc | apply pw_below_drewN | apply below_drew1 | refine below_set ?_ GE247.out | refine below_set ?_ GE248.out) | exact HB.out))) : w.heap.size ≤ gb259)); have n6_ := Aside0.mk ((by rw [hg]; exact Nat.ne_of_lt (blk_lt (g := gb247) (o := .cells #[.int .i64 a0_0, .int .i64 a0_1, .int .i64 a0_2, .slice A0_3 l0_3.length c0_3, .slice (some ad258) l0_4.length c0_4, .slice A0_5 l0_5.length c0_5] 57 (0, 0)) (by (with_reducible repeat (first | refine blk_drewN ?_ _ | refine blk_drew ?_ | refine blk_alloc ?_ _)); exact BK247.out)) : gb247 ≠ gb259)); have n7_ := Aside0.mk ((by rw [hg]; exact Nat.ne_of_gt (blk_lt (g := gb247) (o := .cells #[.int .i64 a0_0, .int .i64 a0_1, .int .i64 a0_2, .slice A0_3 l0_3.length c0_3, .slice (some ad258) l0_4.length c0_4, .slice A0_5 l0_5.length c0_5] 57 (0, 0)) (by (with_reducible repeat (first | refine blk_drewN ?_ _ | refine blk_drew ?_ | refine blk_alloc ?_ _)); exact BK247.out)) : gb259 ≠ gb247)); have n8_ := Aside0.mk ((by rw [hg]; exact Nat.ne_of_lt (blk_lt (g := gb248) (o := .cells #[.string a2_0, .bool a2_1, .int .i64 a2_2, .int .i64 a2_3] 96 (0, 0)) (by (with_reducible repeat (first | refine blk_drewN ?_ _ | refine blk_drew ?_ | refine blk_alloc ?_ _)); exact BK248.out)) : gb248 ≠ gb259)); have n9_ := Aside0.mk ((by rw [hg]; exact Nat.ne_of_gt (blk_lt (g := gb248) (o := .cells #[.string a2_0, .bool a2_1, .int .i64 a2_2, .int .i64 a2_3] 96 (0, 0)) (by (with_reducible repeat (first | refine blk_drewN ?_ _ | refine blk_drew ?_ | refine blk_alloc ?_ _)); exact BK248.out)) : gb259 ≠ gb248)); clear BK247; clear BK248; clear HB; have BK247 := n0_; have BK248 := n1_; have HB := n2_; have BK259 := n3_; have GE259 := n5_; have NB247_259 := n6_; have NB259_247 := n7_; have NB248_259 := n8_; have NB259_248 := n9_; clear n0_ n1_ n2_ n3_ n4_ n5_ n6_ n7_ n8_ n9_; clear hb hbox hg; have hnc98 := NB248_259.out; have hcz99_0 : w96.cell? ⟨gb259, 0, none⟩ = some (.int .i64 0) := (blk_cell BK259.out 0).trans rfl; have hcz99_1 : w96.cell? ⟨gb259, 1, none⟩ = some (.int .i64 0) := (blk_cell BK259.out 1).trans rfl; have hcz99_2 : w96.cell? ⟨gb259, 2, none⟩ = some (.int .i64 0) := (blk_cell BK259.out 2).trans rfl; have hcz99_3 : w96.cell? ⟨gb259, 3, none⟩ = some (.int .i64 0) := (blk_cell BK259.out 3).trans rfl; have hcz99_4 : w96.cell? ⟨gb259, 4, none⟩ = some (.int .i64 0) := (blk_cell BK259.out 4).trans rfl; have hfz99_0 := blk_frozen BK259.out 0; have hfz99_1 := blk_frozen BK259.out 1; have hfz99_2 := blk_frozen BK259.out 2; have hfz99_3 := blk_frozen BK259.out 3; have hfz99_4 := blk_frozen BK259.out 4; have hnb100 := NB248_247.out; have hnc100 := NB247_248.out; have hcz101_2 : w96.cell? ⟨gb248, 2, none⟩ = some (.int .i64 a2_2) := (blk_cell BK248.out 2).trans rfl; have hcz101_3 : w96.cell? ⟨gb248, 3, none⟩ = some (.int .i64 a2_3) := (blk_cell BK248.out 3).trans rfl; have hfz101_3 := blk_frozen BK248.out 3) | (go_at_call 16; (with_reducible refine (maskref4_In.calls a2_2 ((rd_T100 l0_4 x101_4).f1) ((rd_T100 l0_4 x101_4).f3) true _ A86.out).mono ?_); rintro e w' ⟨rfl, ⟨nd, rfl⟩⟩) | (go_at_call 16; (with_reducible refine (maskref4_In.calls a2_3 ((rd_T100 l0_4 x101_4).f2) ((rd_T100 l0_4 x101_4).f4) false _ A88.out).mono ?_); rintro e w' ⟨rfl, ⟨nd, rfl⟩⟩))
     go_roundg k4
     case measure => have := HJ6.out; have := HJ19.out; have := HK3.out; have := HK4.out; omega
     case rel => exact ⟨(wrap64 (x101_4 + 1)), (by first | rfl | (simp; done) | (simp [*]; done)), H', ⟨by have := HJ6.out; have := HJ19.out; have := HK3.out; have := HK4.out; omega⟩, ⟨by (with_reducible repeat (first | refine blk_drewN ?_ _ | refine blk_drew ?_ | refine blk_alloc ?_ _)); refine blk_far ?_ NB247_259.out _; (with_reducible repeat (first | refine blk_drewN ?_ _ | refine blk_drew ?_ | refine blk_alloc ?_ _)); refine blk_far ?_ NB247_259.out _; (with_reducible repeat (first | refine blk_drewN ?_ _ | refine blk_drew ?_ | refine blk_alloc ?_ _)); refine blk_far ?_ NB247_259.out _; (with_reducible repeat (first | refine blk_drewN ?_ _ | refine blk_drew ?_ | refine blk_alloc ?_ _)); refine blk_far ?_ NB247_259.out _; (with_reducible repeat (first | refine blk_drewN ?_ _ | refine blk_drew ?_ | refine blk_alloc ?_ _)); refine blk_far ?_ NB247_259.out _; (with_reducible repeat (first | refine blk_drewN ?_ _ | refine blk_drew ?_ | refine blk_alloc ?_ _)); exact BK247.out⟩, ⟨by (with_reducible repeat (first | refine blk_drewN ?_ _ | refine blk_drew ?_ | refine blk_alloc ?_ _)); refine blk_far ?_ NB248_259.out _; (with_reducible repeat (first | refine blk_drewN ?_ _ | refine blk_drew ?_ | refine blk_alloc ?_ _)); refine blk_far ?_ NB248_259.out _; (with_reducible repeat (first | refine blk_drewN ?_ _ | refine blk_drew ?_ | refine blk_alloc ?_ _)); refine blk_far ?_ NB248_259.out _; (with_reducible repeat (first | refine blk_drewN ?_ _ | refine blk_drew ?_ | refine blk_alloc ?_ _)); refine blk_far ?_ NB248_259.out _; (with_reducible repeat (first | refine blk_drewN ?_ _ | refine blk_drew ?_ | refine blk_alloc ?_ _)); refine blk_far ?_ NB248_259.out _; (with_reducible repeat (first | refine blk_drewN ?_ _ | refine blk_drew ?_ | refine blk_alloc ?_ _)); exact BK248.out⟩, ⟨by repeat (first | (with_reducible first | exact HB.out | apply below_alloc | apply pw_below_drewN | apply below_drew1 | refine below_set ?_ GE247.out | refine below_set ?_ GE248.out | refine below_set ?_ GE259.out) | exact HB.out)⟩⟩

end Go.Proofs.Ytgajgnemfccnhaa.PL
