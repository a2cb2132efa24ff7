-- PRINTED by print.py (a twelfth state) out of the translation. Not trusted: Lean checks it.
import Derived.Test.YtagpbgabcenodaaPBx0
import Derived.Test.YtagpbgabcenodaaPBx6
import Derived.Test.YtagpbgabcenodaaPBx7
import Derived.Test.YtagpbgabcenodaaPBx14
namespace Go.Proofs.Ytagpbgabcenodaa.PB
open Go.RowKit Go.Proofs.YtagpbgabcenodaaW.PrintWords Go.Proofs.YtagpbgabcenodaaW.PrintLast Go.Proofs.YtagpbgabcenodaaW.PrintMore
attribute [local go_sem] max2_int min2_int max_two min_two max_three min_three max_four min_four   -- for this text's walks alone
set_option linter.unusedVariables false
set_option linter.unusedSimpArgs false

/-! ### tree_Check: function 7 -/
mutual
def tree_Check.j0 : Nat → Int → List (S32) → Bool → Int → List Int → List Int → Option (Int)
 | 0, _, _, _, _, _, _ => none
 | k + 1, x1, x2, x30, x149000, x149001, x149002 => if x30 = true then (some 3) else (if (x149002.length : Int) = x1 then (if (x149001.length : Int) = 0 then (tree_Check.j1 k x2 (x149000 != 0) x149000 x149001 x149002) else (tree_Check.j1 k x2 false x149000 x149001 x149002)) else (some 4))
def tree_Check.j3 : Nat → Int → List Int → List Int → Option (Int)
 | 0, _, _, _ => none
 | k + 1, x149000, x149001, x149002 => tree_Check.l0 k x149001 (x149001.length : Int) 0 x149000 x149001 x149002
def tree_Check.l0 : Nat → List Int → Int → Int → Int → List Int → List Int → Option (Int)
 | 0, _, _, _, _, _, _ => none
 | k + 1, x75, x76, x77, x149000, x149001, x149002 => if x77 < x76 then (if 0 ≤ x77 then (if x77 < (x75.length : Int) then (if (rd x75 x77) < (-1) then (some 5) else (if (rd x75 x77) ≥ x77 then (some 5) else (tree_Check.l0 k x75 x76 (wrap64 (x77 + 1)) x149000 x149001 x149002))) else (none)) else (none)) else (tree_Check.l1 k x149002 (x149002.length : Int) 0 x149000 x149001 x149002)
def tree_Check.l1 : Nat → List Int → Int → Int → Int → List Int → List Int → Option (Int)
 | 0, _, _, _, _, _, _ => none
 | k + 1, x91, x92, x93, x149000, x149001, x149002 => if x93 < x92 then (if 0 ≤ x93 then (if x93 < (x91.length : Int) then (if (rd x91 x93) < (-1) then (some 7) else (if (rd x91 x93) ≥ (x149001.length : Int) then (some 7) else (tree_Check.l1 k x91 x92 (wrap64 (x93 + 1)) x149000 x149001 x149002))) else (none)) else (none)) else (tree_Check.l2 k (-1) x149000 x149001 x149002)
def tree_Check.l2 : Nat → Int → Int → List Int → List Int → Option (Int)
 | 0, _, _, _, _ => none
 | k + 1, x12, x149000, x149001, x149002 => if x12 < (x149001.length : Int) then ((tree_Kids.f k x149000 x149001 x149002 x12).bind fun bt154 => (if (wrap64 ((bt154.1.length : Int) + (bt154.2.length : Int))) > 8 then (some 14) else (if (wrap64 ((bt154.1.length : Int) + (bt154.2.length : Int))) = 0 then (if x12 ≥ 0 then (some 18) else (tree_Check.l2 k (wrap64 (x12 + 1)) x149000 x149001 x149002)) else (tree_Check.l2 k (wrap64 (x12 + 1)) x149000 x149001 x149002)))) else (some 0)
def tree_Check.j1 : Nat → List (S32) → Bool → Int → List Int → List Int → Option (Int)
 | 0, _, _, _, _, _ => none
 | k + 1, x2, x36, x149000, x149001, x149002 => if x36 = true then (tree_Check.j2 k x2 x36 x149000 x149001 x149002) else (if x149000 < 0 then (tree_Check.j2 k x2 (decide (x149000 < 0)) x149000 x149001 x149002) else (if (x149001.length : Int) > 0 then (tree_Check.j2 k x2 (decide (x149000 ≥ (x2.length : Int))) x149000 x149001 x149002) else (tree_Check.j2 k x2 false x149000 x149001 x149002)))
def tree_Check.j2 : Nat → List (S32) → Bool → Int → List Int → List Int → Option (Int)
 | 0, _, _, _, _, _ => none
 | k + 1, x2, x36, x149000, x149001, x149002 => if x36 = true then (some 2) else (if (x149001.length : Int) > 0 then (if 0 ≤ x149000 then (if x149000 < (x2.length : Int) then ((tree_IsBuffer.f ((rd_T32 x2 x149000).f0) ((rd_T32 x2 x149000).f1) ((rd_T32 x2 x149000).f2) ((rd_T32 x2 x149000).f3) ((rd_T32 x2 x149000).f4) ((rd_T32 x2 x149000).f5) ((rd_T32 x2 x149000).f6) ((rd_T32 x2 x149000).f7) ((rd_T32 x2 x149000).f8) ((rd_T32 x2 x149000).f9) ((rd_T32 x2 x149000).f10)).bind fun t151 => (if t151 = true then (tree_Check.j3 k x149000 x149001 x149002) else (some 8))) else (none)) else (none)) else (tree_Check.j3 k x149000 x149001 x149002))
end
def tree_Check.f (k : Nat) (a0_0 : Int) (l0_1 : List Int) (l0_2 : List Int) (a1 : Int) (l2 : List (S32)) : Option (Int) := (lib_Check.f k l2).bind fun t149 => (if t149 = 0 then (if (l0_1.length : Int) > 64 then (tree_Check.j0 k a1 l2 true a0_0 l0_1 l0_2) else (tree_Check.j0 k a1 l2 (decide ((l0_2.length : Int) > 288)) a0_0 l0_1 l0_2)) else (some t149))
theorem tree_Check.mono_l : ∀ k, (∀ y0 y1 y2 y3 y4 y5, LeO (tree_Check.j0 k y0 y1 y2 y3 y4 y5) (tree_Check.j0 (k + 1) y0 y1 y2 y3 y4 y5)) ∧ (∀ y0 y1 y2, LeO (tree_Check.j3 k y0 y1 y2) (tree_Check.j3 (k + 1) y0 y1 y2)) ∧ (∀ y0 y1 y2 y3 y4 y5, LeO (tree_Check.l0 k y0 y1 y2 y3 y4 y5) (tree_Check.l0 (k + 1) y0 y1 y2 y3 y4 y5)) ∧ (∀ y0 y1 y2 y3 y4 y5, LeO (tree_Check.l1 k y0 y1 y2 y3 y4 y5) (tree_Check.l1 (k + 1) y0 y1 y2 y3 y4 y5)) ∧ (∀ y0 y1 y2 y3, LeO (tree_Check.l2 k y0 y1 y2 y3) (tree_Check.l2 (k + 1) y0 y1 y2 y3)) ∧ (∀ y0 y1 y2 y3 y4, LeO (tree_Check.j1 k y0 y1 y2 y3 y4) (tree_Check.j1 (k + 1) y0 y1 y2 y3 y4)) ∧ (∀ y0 y1 y2 y3 y4, LeO (tree_Check.j2 k y0 y1 y2 y3 y4) (tree_Check.j2 (k + 1) y0 y1 y2 y3 y4))
 | 0 => ⟨fun _ _ _ _ _ _ r h => by simp [tree_Check.j0] at h, fun _ _ _ r h => by simp [tree_Check.j3] at h, fun _ _ _ _ _ _ r h => by simp [tree_Check.l0] at h, fun _ _ _ _ _ _ r h => by simp [tree_Check.l1] at h, fun _ _ _ _ r h => by simp [tree_Check.l2] at h, fun _ _ _ _ _ r h => by simp [tree_Check.j1] at h, fun _ _ _ _ _ r h => by simp [tree_Check.j2] at h⟩
 | k + 1 => by
  obtain ⟨ih0, ih1, ih2, ih3, ih4, ih5, ih6⟩ := tree_Check.mono_l k
  refine ⟨?_, ?_, ?_, ?_, ?_, ?_, ?_⟩
  · intro y0 y1 y2 y3 y4 y5
    unfold tree_Check.j0
    repeat' first
    | (with_reducible exact ih0 _ _ _ _ _ _)
    | (with_reducible exact ih1 _ _ _)
    | (with_reducible exact ih2 _ _ _ _ _ _)
    | (with_reducible exact ih3 _ _ _ _ _ _)
    | (with_reducible exact ih4 _ _ _ _)
    | (with_reducible exact ih5 _ _ _ _ _)
    | (with_reducible exact ih6 _ _ _ _ _)
    | (with_reducible exact lib_Check.mono _ _)
    | (with_reducible exact tree_Kids.mono _ _ _ _ _)
    | (with_reducible exact LeO.refl _)
    | (with_reducible exact LeO.none _)
    | (with_reducible refine LeO.ite ?_ ?_)
    | (with_reducible refine LeO.bind ?_ (fun _ => ?_))
    | exact ih0 _ _ _ _ _ _
    | exact ih1 _ _ _
    | exact ih2 _ _ _ _ _ _
    | exact ih3 _ _ _ _ _ _
    | exact ih4 _ _ _ _
    | exact ih5 _ _ _ _ _
    | exact ih6 _ _ _ _ _
    | exact lib_Check.mono _ _
    | exact tree_Kids.mono _ _ _ _ _
    | exact LeO.none _
    | refine LeO.ite ?_ ?_
    | refine LeO.bind ?_ (fun _ => ?_)
  · intro y0 y1 y2
    unfold tree_Check.j3
    repeat' first
    | (with_reducible exact ih0 _ _ _ _ _ _)
    | (with_reducible exact ih1 _ _ _)
    | (with_reducible exact ih2 _ _ _ _ _ _)
    | (with_reducible exact ih3 _ _ _ _ _ _)
    | (with_reducible exact ih4 _ _ _ _)
    | (with_reducible exact ih5 _ _ _ _ _)
    | (with_reducible exact ih6 _ _ _ _ _)
    | (with_reducible exact lib_Check.mono _ _)
    | (with_reducible exact tree_Kids.mono _ _ _ _ _)
    | (with_reducible exact LeO.refl _)
    | (with_reducible exact LeO.none _)
    | (with_reducible refine LeO.ite ?_ ?_)
    | (with_reducible refine LeO.bind ?_ (fun _ => ?_))
    | exact ih0 _ _ _ _ _ _
    | exact ih1 _ _ _
    | exact ih2 _ _ _ _ _ _
    | exact ih3 _ _ _ _ _ _
    | exact ih4 _ _ _ _
    | exact ih5 _ _ _ _ _
    | exact ih6 _ _ _ _ _
    | exact lib_Check.mono _ _
    | exact tree_Kids.mono _ _ _ _ _
    | exact LeO.none _
    | refine LeO.ite ?_ ?_
    | refine LeO.bind ?_ (fun _ => ?_)
  · intro y0 y1 y2 y3 y4 y5
    unfold tree_Check.l0
    repeat' first
    | (with_reducible exact ih0 _ _ _ _ _ _)
    | (with_reducible exact ih1 _ _ _)
    | (with_reducible exact ih2 _ _ _ _ _ _)
    | (with_reducible exact ih3 _ _ _ _ _ _)
    | (with_reducible exact ih4 _ _ _ _)
    | (with_reducible exact ih5 _ _ _ _ _)
    | (with_reducible exact ih6 _ _ _ _ _)
    | (with_reducible exact lib_Check.mono _ _)
    | (with_reducible exact tree_Kids.mono _ _ _ _ _)
    | (with_reducible exact LeO.refl _)
    | (with_reducible exact LeO.none _)
    | (with_reducible refine LeO.ite ?_ ?_)
    | (with_reducible refine LeO.bind ?_ (fun _ => ?_))
    | exact ih0 _ _ _ _ _ _
    | exact ih1 _ _ _
    | exact ih2 _ _ _ _ _ _
    | exact ih3 _ _ _ _ _ _
    | exact ih4 _ _ _ _
    | exact ih5 _ _ _ _ _
    | exact ih6 _ _ _ _ _
    | exact lib_Check.mono _ _
    | exact tree_Kids.mono _ _ _ _ _
    | exact LeO.none _
    | refine LeO.ite ?_ ?_
    | refine LeO.bind ?_ (fun _ => ?_)
  · intro y0 y1 y2 y3 y4 y5
    unfold tree_Check.l1
    repeat' first
    | (with_reducible exact ih0 _ _ _ _ _ _)
    | (with_reducible exact ih1 _ _ _)
    | (with_reducible exact ih2 _ _ _ _ _ _)
    | (with_reducible exact ih3 _ _ _ _ _ _)
    | (with_reducible exact ih4 _ _ _ _)
    | (with_reducible exact ih5 _ _ _ _ _)
    | (with_reducible exact ih6 _ _ _ _ _)
    | (with_reducible exact lib_Check.mono _ _)
    | (with_reducible exact tree_Kids.mono _ _ _ _ _)
    | (with_reducible exact LeO.refl _)
    | (with_reducible exact LeO.none _)
    | (with_reducible refine LeO.ite ?_ ?_)
    | (with_reducible refine LeO.bind ?_ (fun _ => ?_))
    | exact ih0 _ _ _ _ _ _
    | exact ih1 _ _ _
    | exact ih2 _ _ _ _ _ _
    | exact ih3 _ _ _ _ _ _
    | exact ih4 _ _ _ _
    | exact ih5 _ _ _ _ _
    | exact ih6 _ _ _ _ _
    | exact lib_Check.mono _ _
    | exact tree_Kids.mono _ _ _ _ _
    | exact LeO.none _
    | refine LeO.ite ?_ ?_
    | refine LeO.bind ?_ (fun _ => ?_)
  · intro y0 y1 y2 y3
    unfold tree_Check.l2
    repeat' first
    | (with_reducible exact ih0 _ _ _ _ _ _)
    | (with_reducible exact ih1 _ _ _)
    | (with_reducible exact ih2 _ _ _ _ _ _)
    | (with_reducible exact ih3 _ _ _ _ _ _)
    | (with_reducible exact ih4 _ _ _ _)
    | (with_reducible exact ih5 _ _ _ _ _)
    | (with_reducible exact ih6 _ _ _ _ _)
    | (with_reducible exact lib_Check.mono _ _)
    | (with_reducible exact tree_Kids.mono _ _ _ _ _)
    | (with_reducible exact LeO.refl _)
    | (with_reducible exact LeO.none _)
    | (with_reducible refine LeO.ite ?_ ?_)
    | (with_reducible refine LeO.bind ?_ (fun _ => ?_))
    | exact ih0 _ _ _ _ _ _
    | exact ih1 _ _ _
    | exact ih2 _ _ _ _ _ _
    | exact ih3 _ _ _ _ _ _
    | exact ih4 _ _ _ _
    | exact ih5 _ _ _ _ _
    | exact ih6 _ _ _ _ _
    | exact lib_Check.mono _ _
    | exact tree_Kids.mono _ _ _ _ _
    | exact LeO.none _
    | refine LeO.ite ?_ ?_
    | refine LeO.bind ?_ (fun _ => ?_)
  · intro y0 y1 y2 y3 y4
    unfold tree_Check.j1
    repeat' first
    | (with_reducible exact ih0 _ _ _ _ _ _)
    | (with_reducible exact ih1 _ _ _)
    | (with_reducible exact ih2 _ _ _ _ _ _)
    | (with_reducible exact ih3 _ _ _ _ _ _)
    | (with_reducible exact ih4 _ _ _ _)
    | (with_reducible exact ih5 _ _ _ _ _)
    | (with_reducible exact ih6 _ _ _ _ _)
    | (with_reducible exact lib_Check.mono _ _)
    | (with_reducible exact tree_Kids.mono _ _ _ _ _)
    | (with_reducible exact LeO.refl _)
    | (with_reducible exact LeO.none _)
    | (with_reducible refine LeO.ite ?_ ?_)
    | (with_reducible refine LeO.bind ?_ (fun _ => ?_))
    | exact ih0 _ _ _ _ _ _
    | exact ih1 _ _ _
    | exact ih2 _ _ _ _ _ _
    | exact ih3 _ _ _ _ _ _
    | exact ih4 _ _ _ _
    | exact ih5 _ _ _ _ _
    | exact ih6 _ _ _ _ _
    | exact lib_Check.mono _ _
    | exact tree_Kids.mono _ _ _ _ _
    | exact LeO.none _
    | refine LeO.ite ?_ ?_
    | refine LeO.bind ?_ (fun _ => ?_)
  · intro y0 y1 y2 y3 y4
    unfold tree_Check.j2
    repeat' first
    | (with_reducible exact ih0 _ _ _ _ _ _)
    | (with_reducible exact ih1 _ _ _)
    | (with_reducible exact ih2 _ _ _ _ _ _)
    | (with_reducible exact ih3 _ _ _ _ _ _)
    | (with_reducible exact ih4 _ _ _ _)
    | (with_reducible exact ih5 _ _ _ _ _)
    | (with_reducible exact ih6 _ _ _ _ _)
    | (with_reducible exact lib_Check.mono _ _)
    | (with_reducible exact tree_Kids.mono _ _ _ _ _)
    | (with_reducible exact LeO.refl _)
    | (with_reducible exact LeO.none _)
    | (with_reducible refine LeO.ite ?_ ?_)
    | (with_reducible refine LeO.bind ?_ (fun _ => ?_))
    | exact ih0 _ _ _ _ _ _
    | exact ih1 _ _ _
    | exact ih2 _ _ _ _ _ _
    | exact ih3 _ _ _ _ _ _
    | exact ih4 _ _ _ _
    | exact ih5 _ _ _ _ _
    | exact ih6 _ _ _ _ _
    | exact lib_Check.mono _ _
    | exact tree_Kids.mono _ _ _ _ _
    | exact LeO.none _
    | refine LeO.ite ?_ ?_
    | refine LeO.bind ?_ (fun _ => ?_)
theorem tree_Check.mono : ∀ a0 a1 a2 a3 a4 k, LeO (tree_Check.f k a0 a1 a2 a3 a4) (tree_Check.f (k + 1) a0 a1 a2 a3 a4) := by
 intro a0 a1 a2 a3 a4 k
 obtain ⟨ih0, ih1, ih2, ih3, ih4, ih5, ih6⟩ := tree_Check.mono_l k
 unfold tree_Check.f
 repeat' first
  | (with_reducible exact ih0 _ _ _ _ _ _)
  | (with_reducible exact ih1 _ _ _)
  | (with_reducible exact ih2 _ _ _ _ _ _)
  | (with_reducible exact ih3 _ _ _ _ _ _)
  | (with_reducible exact ih4 _ _ _ _)
  | (with_reducible exact ih5 _ _ _ _ _)
  | (with_reducible exact ih6 _ _ _ _ _)
  | (with_reducible exact lib_Check.mono _ _)
  | (with_reducible exact tree_Kids.mono _ _ _ _ _)
  | (with_reducible exact LeO.refl _)
  | (with_reducible exact LeO.none _)
  | (with_reducible refine LeO.ite ?_ ?_)
  | (with_reducible refine LeO.bind ?_ (fun _ => ?_))
  | exact ih0 _ _ _ _ _ _
  | exact ih1 _ _ _
  | exact ih2 _ _ _ _ _ _
  | exact ih3 _ _ _ _ _ _
  | exact ih4 _ _ _ _
  | exact ih5 _ _ _ _ _
  | exact ih6 _ _ _ _ _
  | exact lib_Check.mono _ _
  | exact tree_Kids.mono _ _ _ _ _
  | exact LeO.none _
  | refine LeO.ite ?_ ?_
  | refine LeO.bind ?_ (fun _ => ?_)
set_option maxHeartbeats 8000000 in
set_option maxRecDepth 100000 in
theorem tree_Check.calls (k : Nat) (a0_0 : Int) (A0_1 : Option Addr) (c0_1 : Nat) (l0_1 : List Int) (A0_2 : Option Addr) (c0_2 : Nat) (l0_2 : List Int) (a1 : Int) (A2 : Option Addr) (c2 : Nat) (l2 : List (S32)) (r : Int) (w : World) (hr0_1 : Kd.C (Kd.int .i64) w A0_1 l0_1.length l0_1) (hc0_1 : l0_1.length ≤ c0_1) (hr0_2 : Kd.C (Kd.int .i64) w A0_2 l0_2.length l0_2) (hc0_2 : l0_2.length ≤ c0_2) (hr2 : Kd.C k32 w A2 l2.length l2) (hc2 : l2.length ≤ c2) (h : tree_Check.f k a0_0 l0_1 l0_2 a1 l2 = some r) :
 Calls Try.prog 7 #[.agg #[.int .i64 a0_0, .slice A0_1 l0_1.length c0_1, .slice A0_2 l0_2.length c0_2], .int .i64 a1, .slice A2 l2.length c2] w fun e w' => e = .returned (.int .i64 r) ∧ Below w.heap.size w w' := by
 have hu24 := Try.underlying24
 have hu32 := Try.underlying32
 have HR0_1 := Aside0.mk hr0_1
 have HC0_1 := Aside0.mk hc0_1
 clear hr0_1 hc0_1
 have HR0_2 := Aside0.mk hr0_2
 have HC0_2 := Aside0.mk hc0_2
 clear hr0_2 hc0_2
 have HR2 := Aside0.mk hr2
 have HC2 := Aside0.mk hc2
 clear hr2 hc2
 have HB := Aside0.mk (Below.refl w.heap.size w)
 have H : ((lib_Check.f k l2).bind fun t149 => (if t149 = 0 then (if (l0_1.length : Int) > 64 then (tree_Check.j0 k a1 l2 true a0_0 l0_1 l0_2) else (tree_Check.j0 k a1 l2 (decide ((l0_2.length : Int) > 288)) a0_0 l0_1 l0_2)) else (some t149))) = some r := h
 clear h
 replace H := Option.bind_eq_some_iff.mp H
 obtain ⟨t149, A40, H⟩ := H
 replace H : (if t149 = 0 then (if (l0_1.length : Int) > 64 then (tree_Check.j0 k a1 l2 true a0_0 l0_1 l0_2) else (tree_Check.j0 k a1 l2 (decide ((l0_2.length : Int) > 288)) a0_0 l0_1 l0_2)) else (some t149)) = some r := H
 have A4 := Aside0.mk A40
 clear A40
 by_cases c5 : t149 = 0
 · rw [if_pos c5] at H
   have c5b0 : (t149 == 0) = true := beq_iff_eq.mpr c5
   have c5b1 : (t149 != 0) = false := bne_eq_false_iff_eq.mpr c5
   clear c5
   have HC6 := Aside0.mk H
   clear H
   go_enter Try.func7, Try.ntmps7
   go_upto_region 4 with (first | ((with_reducible refine gate_dst (N := 3) rfl ?_); (try (refine gate_guard (by rfl) ?_; dsimp only)); refine box_event ?hg (N := 3) ?hd (cs := #[.int .i64 a0_0, .slice A0_1 l0_1.length c0_1, .slice A0_2 l0_2.length c0_2]) (t := 24) ?hr ?_; (case hd => rfl); (case hg => rfl); (case hr => first | (go_simp; done) | (go_simp; rfl)); intro gb148 hg w7 hbox hb; have n0_ := Aside0.mk (below_step (by repeat (first | (with_reducible first | exact HB.out | apply below_alloc | apply pw_below_drewN | apply below_drew1) | exact HB.out)) hb); have n1_ := Aside0.mk (hbox); have n2_ := Aside0.mk ((by rw [hg]; exact (below_size (by repeat (first | (with_reducible first | exact HB.out | apply below_alloc | apply pw_below_drewN | apply below_drew1) | exact HB.out))) : w.heap.size ≤ gb148)); have n3_ := Aside0.mk ((by rw [hg]; exact (below_size (by repeat (first | (with_reducible first | exact HB.out | apply below_alloc | apply pw_below_drewN | apply below_drew1) | exact HB.out))) : w.heap.size ≤ gb148)); clear HB; have HB := n0_; have BK148 := n1_; have GW148 := n2_; have GE148 := n3_; clear n0_ n1_ n2_ n3_; clear hb hbox hg) | ((with_reducible refine gate_callee (f := 34) rfl ?_); refine goesL_ (some 17) rfl rfl Try.func34 (by kernel_rfl) rfl #[.slice A2 l2.length c2] rfl (by (try simp only [List.map_toArray, List.map_cons, List.map_nil]); first | done | rfl | (simp only [List.length_drop, List.length_take]; rfl)) ?_; (with_reducible refine (lib_Check.calls k _ _ l2 t149 _ ?side1 ?side2 A4.out).mono ?_); (case side1 => repeat (first | exact (Kd.C_below HR2.out HB.out) | (with_reducible refine Kd.C_alloc ?_ _) | (with_reducible refine Kd.C_drewN ?_ _) | (with_reducible refine Kd.C_drew ?_))); (case side2 => exact HC2.out); rintro e w8 ⟨rfl, hb⟩; refine ⟨_, rfl, ?_⟩; have n0_ := Aside0.mk (blk_below (g := gb148) (o := .cells #[.int .i64 a0_0, .slice A0_1 l0_1.length c0_1, .slice A0_2 l0_2.length c0_2] 24 (0, 0)) (by (with_reducible repeat (first | refine blk_drewN ?_ _ | refine blk_drew ?_ | refine blk_alloc ?_ _)); exact BK148.out) hb); have n1_ := Aside0.mk (below_step (by repeat (first | (with_reducible first | exact HB.out | apply below_alloc | apply pw_below_drewN | apply below_drew1 | refine below_set ?_ GE148.out) | exact HB.out)) hb); clear BK148; clear HB; have BK148 := n0_; have HB := n1_; clear n0_ n1_; (try clear hb); (try clear hb2); (try clear hk); (try clear hi)))
   (try simp only [Act.put, List.setIfInBounds_toArray, List.set_cons_zero, List.set_cons_succ])
   go_cut [30] (fun v30 wc => ∃ (kq : Nat) (x30_5 : Bool), v30 = .bool x30_5 ∧ Aside0 (tree_Check.j0 kq a1 l2 x30_5 a0_0 l0_1 l0_2 = some r) ∧ Aside0 (kq ≤ k) ∧ Aside0 (wc.heap[gb148]? = some (.cells #[.int .i64 a0_0, (.slice A0_1 l0_1.length c0_1), (.slice A0_2 l0_2.length c0_2)] 24 (0, 0))) ∧ Aside0 (Below w.heap.size w wc))
   case first =>
    have H := HC6.out
    clear HC6
    by_cases c9 : (l0_1.length : Int) > 64
    · rw [if_pos c9] at H
      have c9b0 : decide (64 < (l0_1.length : Int)) = true := decide_eq_true c9
      have c9b1 : decide (64 < l0_1.length) = true := decide_eq_true (by omega)
      clear c9
      (first | rw [c9b0] | (simp only [i64_w, i32_w]; rw [c9b0]) | skip)
      have H' := Aside0.mk H
      clear H
      have hcz10_0 : w8.cell? ⟨gb148, 0, none⟩ = some (.int .i64 a0_0) := (blk_cell BK148.out 0).trans rfl
      have hcz10_1 : w8.cell? ⟨gb148, 1, none⟩ = some (.slice A0_1 l0_1.length c0_1) := (blk_cell BK148.out 1).trans rfl
      have hcz10_2 : w8.cell? ⟨gb148, 2, none⟩ = some (.slice A0_2 l0_2.length c0_2) := (blk_cell BK148.out 2).trans rfl
      have hfz10_0 := blk_frozen BK148.out 0
      have hfz10_1 := blk_frozen BK148.out 1
      have hfz10_2 := blk_frozen BK148.out 2
      go_wp2
      go_meet
      case rel => exact ⟨_, (true), (by first | rfl | (simp; done) | (simp [*]; done)), H', ⟨by first | omega | exact Nat.le_refl _⟩, ⟨by (with_reducible repeat (first | refine blk_drewN ?_ _ | refine blk_drew ?_ | refine blk_alloc ?_ _)); exact BK148.out⟩, ⟨by repeat (first | (with_reducible first | exact HB.out | apply below_alloc | apply pw_below_drewN | apply below_drew1 | refine below_set ?_ GE148.out) | exact HB.out)⟩⟩
    · rw [if_neg c9] at H
      have c9b0 : decide (64 < (l0_1.length : Int)) = false := decide_eq_false c9
      have c9b1 : decide (64 < l0_1.length) = false := decide_eq_false (by omega)
      clear c9
      (first | rw [c9b0] | (simp only [i64_w, i32_w]; rw [c9b0]) | skip)
      have H' := Aside0.mk H
      clear H
      have hcz11_0 : w8.cell? ⟨gb148, 0, none⟩ = some (.int .i64 a0_0) := (blk_cell BK148.out 0).trans rfl
      have hcz11_1 : w8.cell? ⟨gb148, 1, none⟩ = some (.slice A0_1 l0_1.length c0_1) := (blk_cell BK148.out 1).trans rfl
      have hcz11_2 : w8.cell? ⟨gb148, 2, none⟩ = some (.slice A0_2 l0_2.length c0_2) := (blk_cell BK148.out 2).trans rfl
      have hfz11_0 := blk_frozen BK148.out 0
      have hfz11_1 := blk_frozen BK148.out 1
      have hfz11_2 := blk_frozen BK148.out 2
      go_wp2
      go_meet
      case rel => exact ⟨_, (decide ((l0_2.length : Int) > 288)), (by first | rfl | (simp; done) | (simp [*]; done)), H', ⟨by first | omega | exact Nat.le_refl _⟩, ⟨by (with_reducible repeat (first | refine blk_drewN ?_ _ | refine blk_drew ?_ | refine blk_alloc ?_ _)); exact BK148.out⟩, ⟨by repeat (first | (with_reducible first | exact HB.out | apply below_alloc | apply pw_below_drewN | apply below_drew1 | refine below_set ?_ GE148.out) | exact HB.out)⟩⟩
   case rest =>
    clear HC6
    clear c5b0 c5b1
    obtain ⟨kq, x30_5, rfl, HA, HJ5, BK148, HB⟩ := hcut
    cases kq with
    | zero => exact absurd HA.out (by simp [tree_Check.j0])
    | succ kj5 =>
     have H := HA.out
     clear HA
     simp only [tree_Check.j0] at H
     by_cases c12 : x30_5 = true
     · subst c12
       have H1 : (some 3) = some r := by rw [if_pos rfl] at H; exact H
       clear H
       have H := H1
       clear H1
       obtain rfl := Option.some.inj H
       go_wp2
       go_ret
       exact ⟨by first | rfl | (simp [errW_none, errW_some] <;> rfl) | (simp [*, errW_none, errW_some] <;> rfl), by repeat (first | (with_reducible first | exact HB.out | apply below_alloc | apply pw_below_drewN | apply below_drew1 | refine below_set ?_ GE148.out) | exact HB.out)⟩
     · replace c12 := Bool.eq_false_iff.mpr c12
       subst c12
       have H1 : (if (l0_2.length : Int) = a1 then (if (l0_1.length : Int) = 0 then (tree_Check.j1 kj5 l2 (a0_0 != 0) a0_0 l0_1 l0_2) else (tree_Check.j1 kj5 l2 false a0_0 l0_1 l0_2)) else (some 4)) = some r := by rw [if_neg (show ¬ (false = true) by decide)] at H; exact H
       clear H
       have H := H1
       clear H1
       by_cases c13 : (l0_2.length : Int) = a1
       · rw [if_pos c13] at H
         have c13b0 : ((l0_2.length : Int) == a1) = true := beq_iff_eq.mpr c13
         have c13b1 : ((l0_2.length : Int) != a1) = false := bne_eq_false_iff_eq.mpr c13
         clear c13
         have HC14 := Aside0.mk H
         clear H
         have hcz15_0 : wc.cell? ⟨gb148, 0, none⟩ = some (.int .i64 a0_0) := (blk_cell BK148.out 0).trans rfl
         have hcz15_1 : wc.cell? ⟨gb148, 1, none⟩ = some (.slice A0_1 l0_1.length c0_1) := (blk_cell BK148.out 1).trans rfl
         have hcz15_2 : wc.cell? ⟨gb148, 2, none⟩ = some (.slice A0_2 l0_2.length c0_2) := (blk_cell BK148.out 2).trans rfl
         have hfz15_0 := blk_frozen BK148.out 0
         have hfz15_1 := blk_frozen BK148.out 1
         have hfz15_2 := blk_frozen BK148.out 2
         go_upto_block 0 with (fail)
         go_cut [] (fun wc => ∃ (kq : Nat), Aside0 (tree_Check.j3 kq a0_0 l0_1 l0_2 = some r) ∧ Aside0 (kq ≤ kj5) ∧ Aside0 (wc.heap[gb148]? = some (.cells #[.int .i64 a0_0, (.slice A0_1 l0_1.length c0_1), (.slice A0_2 l0_2.length c0_2)] 24 (0, 0))) ∧ Aside0 (Below w.heap.size w wc))
         case first =>
          have H := HC14.out
          clear HC14
          have HC16 := Aside0.mk H
          clear H
          go_upto_region 8 with (fail)
          go_cut [36] (fun v36 wc => ∃ (kq : Nat) (x36_15 : Bool), v36 = .bool x36_15 ∧ Aside0 (tree_Check.j1 kq l2 x36_15 a0_0 l0_1 l0_2 = some r) ∧ Aside0 (kq ≤ kj5) ∧ Aside0 (wc.heap[gb148]? = some (.cells #[.int .i64 a0_0, (.slice A0_1 l0_1.length c0_1), (.slice A0_2 l0_2.length c0_2)] 24 (0, 0))) ∧ Aside0 (Below w.heap.size w wc))
          case first =>
           have H := HC16.out
           clear HC16
           by_cases c17 : (l0_1.length : Int) = 0
           · rw [if_pos c17] at H
             have c17b0 : ((l0_1.length : Int) == 0) = true := beq_iff_eq.mpr c17
             have c17b1 : ((l0_1.length : Int) != 0) = false := bne_eq_false_iff_eq.mpr c17
             clear c17
             (first | rw [c17b0] | (simp only [i64_w, i32_w]; rw [c17b0]) | skip)
             have H' := Aside0.mk H
             clear H
             have hcz18_0 : wc.cell? ⟨gb148, 0, none⟩ = some (.int .i64 a0_0) := (blk_cell BK148.out 0).trans rfl
             have hcz18_1 : wc.cell? ⟨gb148, 1, none⟩ = some (.slice A0_1 l0_1.length c0_1) := (blk_cell BK148.out 1).trans rfl
             have hcz18_2 : wc.cell? ⟨gb148, 2, none⟩ = some (.slice A0_2 l0_2.length c0_2) := (blk_cell BK148.out 2).trans rfl
             have hfz18_0 := blk_frozen BK148.out 0
             have hfz18_1 := blk_frozen BK148.out 1
             have hfz18_2 := blk_frozen BK148.out 2
             go_wp2
             go_meet
             case rel => exact ⟨_, ((a0_0 != 0)), (by first | rfl | (simp; done) | (simp [*]; done)), H', ⟨by have := HJ5.out; first | omega | exact Nat.le_refl _⟩, ⟨by (with_reducible repeat (first | refine blk_drewN ?_ _ | refine blk_drew ?_ | refine blk_alloc ?_ _)); exact BK148.out⟩, ⟨by repeat (first | (with_reducible first | exact HB.out | apply below_alloc | apply pw_below_drewN | apply below_drew1 | refine below_set ?_ GE148.out) | exact HB.out)⟩⟩
           · rw [if_neg c17] at H
             have c17b0 : ((l0_1.length : Int) == 0) = false := beq_eq_false_iff_ne.mpr c17
             have c17b1 : ((l0_1.length : Int) != 0) = true := bne_iff_ne.mpr c17
             have c17b2 : ¬ (l0_1 = []) := fun h_ => c17 (by rw [h_]; rfl)
             (first | rw [c17b0] | (simp only [i64_w, i32_w]; rw [c17b0]) | skip)
             have H' := Aside0.mk H
             clear H
             have hcz19_0 : wc.cell? ⟨gb148, 0, none⟩ = some (.int .i64 a0_0) := (blk_cell BK148.out 0).trans rfl
             have hcz19_1 : wc.cell? ⟨gb148, 1, none⟩ = some (.slice A0_1 l0_1.length c0_1) := (blk_cell BK148.out 1).trans rfl
             have hcz19_2 : wc.cell? ⟨gb148, 2, none⟩ = some (.slice A0_2 l0_2.length c0_2) := (blk_cell BK148.out 2).trans rfl
             have hfz19_0 := blk_frozen BK148.out 0
             have hfz19_1 := blk_frozen BK148.out 1
             have hfz19_2 := blk_frozen BK148.out 2
             go_wp2
             go_meet
             case rel => exact ⟨_, (false), (by first | rfl | (simp; done) | (simp [*]; done)), H', ⟨by have := HJ5.out; first | omega | exact Nat.le_refl _⟩, ⟨by (with_reducible repeat (first | refine blk_drewN ?_ _ | refine blk_drew ?_ | refine blk_alloc ?_ _)); exact BK148.out⟩, ⟨by repeat (first | (with_reducible first | exact HB.out | apply below_alloc | apply pw_below_drewN | apply below_drew1 | refine below_set ?_ GE148.out) | exact HB.out)⟩⟩
          case rest =>
           clear HC16
           clear c13b0 c13b1 hcz15_0 hcz15_1 hcz15_2 hfz15_0 hfz15_1 hfz15_2
           obtain ⟨kq, x36_15, rfl, HA, HJ15, BK148, HB⟩ := hcut
           cases kq with
           | zero => exact absurd HA.out (by simp [tree_Check.j1])
           | succ kj15 =>
            have H := HA.out
            clear HA
            simp only [tree_Check.j1] at H
            have HC20 := Aside0.mk H
            clear H
            go_upto_if 36 with (fail)
            go_cut [36] (fun v36 wc => ∃ (kq : Nat) (x36_19 : Bool), v36 = .bool x36_19 ∧ Aside0 (tree_Check.j2 kq l2 x36_19 a0_0 l0_1 l0_2 = some r) ∧ Aside0 (kq ≤ kj15) ∧ Aside0 (wc.heap[gb148]? = some (.cells #[.int .i64 a0_0, (.slice A0_1 l0_1.length c0_1), (.slice A0_2 l0_2.length c0_2)] 24 (0, 0))) ∧ Aside0 (Below w.heap.size w wc))
            case first =>
             have H := HC20.out
             clear HC20
             by_cases c21 : x36_15 = true
             · subst c21
               have H1 : (tree_Check.j2 kj15 l2 true a0_0 l0_1 l0_2) = some r := by rw [if_pos rfl] at H; exact H
               clear H
               have H := H1
               clear H1
               have H' := Aside0.mk H
               clear H
               go_wp2
               go_meet
               case rel => exact ⟨_, (true), (by first | rfl | (simp; done) | (simp [*]; done)), H', ⟨by have := HJ5.out; have := HJ15.out; first | omega | exact Nat.le_refl _⟩, ⟨by (with_reducible repeat (first | refine blk_drewN ?_ _ | refine blk_drew ?_ | refine blk_alloc ?_ _)); exact BK148.out⟩, ⟨by repeat (first | (with_reducible first | exact HB.out | apply below_alloc | apply pw_below_drewN | apply below_drew1 | refine below_set ?_ GE148.out) | exact HB.out)⟩⟩
             · replace c21 := Bool.eq_false_iff.mpr c21
               subst c21
               have H1 : (if a0_0 < 0 then (tree_Check.j2 kj15 l2 (decide (a0_0 < 0)) a0_0 l0_1 l0_2) else (if (l0_1.length : Int) > 0 then (tree_Check.j2 kj15 l2 (decide (a0_0 ≥ (l2.length : Int))) a0_0 l0_1 l0_2) else (tree_Check.j2 kj15 l2 false a0_0 l0_1 l0_2))) = some r := by rw [if_neg (show ¬ (false = true) by decide)] at H; exact H
               clear H
               have H := H1
               clear H1
               by_cases c22 : a0_0 < 0
               · rw [if_pos c22] at H
                 have c22b0 : decide (a0_0 < 0) = true := decide_eq_true c22
                 clear c22
                 (first | rw [c22b0] | (simp only [i64_w, i32_w]; rw [c22b0]) | skip)
                 have H' := Aside0.mk H
                 clear H
                 have hcz23_0 : wc.cell? ⟨gb148, 0, none⟩ = some (.int .i64 a0_0) := (blk_cell BK148.out 0).trans rfl
                 have hcz23_1 : wc.cell? ⟨gb148, 1, none⟩ = some (.slice A0_1 l0_1.length c0_1) := (blk_cell BK148.out 1).trans rfl
                 have hcz23_2 : wc.cell? ⟨gb148, 2, none⟩ = some (.slice A0_2 l0_2.length c0_2) := (blk_cell BK148.out 2).trans rfl
                 have hfz23_0 := blk_frozen BK148.out 0
                 have hfz23_1 := blk_frozen BK148.out 1
                 have hfz23_2 := blk_frozen BK148.out 2
                 go_wp2
                 go_meet
                 case rel => exact ⟨_, (decide (a0_0 < 0)), (by first | rfl | (simp; done) | (simp [*]; done)), H', ⟨by have := HJ5.out; have := HJ15.out; first | omega | exact Nat.le_refl _⟩, ⟨by (with_reducible repeat (first | refine blk_drewN ?_ _ | refine blk_drew ?_ | refine blk_alloc ?_ _)); exact BK148.out⟩, ⟨by repeat (first | (with_reducible first | exact HB.out | apply below_alloc | apply pw_below_drewN | apply below_drew1 | refine below_set ?_ GE148.out) | exact HB.out)⟩⟩
               · rw [if_neg c22] at H
                 have c22b0 : decide (a0_0 < 0) = false := decide_eq_false c22
                 clear c22
                 (first | rw [c22b0] | (simp only [i64_w, i32_w]; rw [c22b0]) | skip)
                 by_cases c24 : (l0_1.length : Int) > 0
                 · rw [if_pos c24] at H
                   have c24b0 : decide (0 < (l0_1.length : Int)) = true := decide_eq_true c24
                   have c24b1 : decide (0 < l0_1.length) = true := decide_eq_true (by omega)
                   clear c24
                   have H' := Aside0.mk H
                   clear H
                   have hcz25_0 : wc.cell? ⟨gb148, 0, none⟩ = some (.int .i64 a0_0) := (blk_cell BK148.out 0).trans rfl
                   have hcz25_1 : wc.cell? ⟨gb148, 1, none⟩ = some (.slice A0_1 l0_1.length c0_1) := (blk_cell BK148.out 1).trans rfl
                   have hcz25_2 : wc.cell? ⟨gb148, 2, none⟩ = some (.slice A0_2 l0_2.length c0_2) := (blk_cell BK148.out 2).trans rfl
                   have hfz25_0 := blk_frozen BK148.out 0
                   have hfz25_1 := blk_frozen BK148.out 1
                   have hfz25_2 := blk_frozen BK148.out 2
                   go_wp2
                   go_meet
                   case rel => exact ⟨_, (decide (a0_0 ≥ (l2.length : Int))), (by first | rfl | (simp; done) | (simp [*]; done)), H', ⟨by have := HJ5.out; have := HJ15.out; first | omega | exact Nat.le_refl _⟩, ⟨by (with_reducible repeat (first | refine blk_drewN ?_ _ | refine blk_drew ?_ | refine blk_alloc ?_ _)); exact BK148.out⟩, ⟨by repeat (first | (with_reducible first | exact HB.out | apply below_alloc | apply pw_below_drewN | apply below_drew1 | refine below_set ?_ GE148.out) | exact HB.out)⟩⟩
                 · rw [if_neg c24] at H
                   have c24b0 : decide (0 < (l0_1.length : Int)) = false := decide_eq_false c24
                   have c24b1 : decide (0 < l0_1.length) = false := decide_eq_false (by omega)
                   clear c24
                   have H' := Aside0.mk H
                   clear H
                   have hcz26_0 : wc.cell? ⟨gb148, 0, none⟩ = some (.int .i64 a0_0) := (blk_cell BK148.out 0).trans rfl
                   have hcz26_1 : wc.cell? ⟨gb148, 1, none⟩ = some (.slice A0_1 l0_1.length c0_1) := (blk_cell BK148.out 1).trans rfl
                   have hcz26_2 : wc.cell? ⟨gb148, 2, none⟩ = some (.slice A0_2 l0_2.length c0_2) := (blk_cell BK148.out 2).trans rfl
                   have hfz26_0 := blk_frozen BK148.out 0
                   have hfz26_1 := blk_frozen BK148.out 1
                   have hfz26_2 := blk_frozen BK148.out 2
                   go_wp2
                   go_meet
                   case rel => exact ⟨_, (false), (by first | rfl | (simp; done) | (simp [*]; done)), H', ⟨by have := HJ5.out; have := HJ15.out; first | omega | exact Nat.le_refl _⟩, ⟨by (with_reducible repeat (first | refine blk_drewN ?_ _ | refine blk_drew ?_ | refine blk_alloc ?_ _)); exact BK148.out⟩, ⟨by repeat (first | (with_reducible first | exact HB.out | apply below_alloc | apply pw_below_drewN | apply below_drew1 | refine below_set ?_ GE148.out) | exact HB.out)⟩⟩
            case rest =>
             clear HC20
             obtain ⟨kq, x36_19, rfl, HA, HJ19, BK148, HB⟩ := hcut
             cases kq with
             | zero => exact absurd HA.out (by simp [tree_Check.j2])
             | succ kj19 =>
              have H := HA.out
              clear HA
              simp only [tree_Check.j2] at H
              by_cases c27 : x36_19 = true
              · subst c27
                have H1 : (some 2) = some r := by rw [if_pos rfl] at H; exact H
                clear H
                have H := H1
                clear H1
                obtain rfl := Option.some.inj H
                go_wp2
                go_ret
                exact ⟨by first | rfl | (simp [errW_none, errW_some] <;> rfl) | (simp [*, errW_none, errW_some] <;> rfl), by repeat (first | (with_reducible first | exact HB.out | apply below_alloc | apply pw_below_drewN | apply below_drew1 | refine below_set ?_ GE148.out) | exact HB.out)⟩
              · replace c27 := Bool.eq_false_iff.mpr c27
                subst c27
                have H1 : (if (l0_1.length : Int) > 0 then (if 0 ≤ a0_0 then (if a0_0 < (l2.length : Int) then ((tree_IsBuffer.f ((rd_T32 l2 a0_0).f0) ((rd_T32 l2 a0_0).f1) ((rd_T32 l2 a0_0).f2) ((rd_T32 l2 a0_0).f3) ((rd_T32 l2 a0_0).f4) ((rd_T32 l2 a0_0).f5) ((rd_T32 l2 a0_0).f6) ((rd_T32 l2 a0_0).f7) ((rd_T32 l2 a0_0).f8) ((rd_T32 l2 a0_0).f9) ((rd_T32 l2 a0_0).f10)).bind fun t151 => (if t151 = true then (tree_Check.j3 kj19 a0_0 l0_1 l0_2) else (some 8))) else (none)) else (none)) else (tree_Check.j3 kj19 a0_0 l0_1 l0_2)) = some r := by rw [if_neg (show ¬ (false = true) by decide)] at H; exact H
                clear H
                have H := H1
                clear H1
                by_cases c28 : (l0_1.length : Int) > 0
                · rw [if_pos c28] at H
                  have c28b0 : decide (0 < (l0_1.length : Int)) = true := decide_eq_true c28
                  have c28b1 : decide (0 < l0_1.length) = true := decide_eq_true (by omega)
                  clear c28
                  by_cases c29 : 0 ≤ a0_0
                  · rw [if_pos c29] at H
                    have c29b0 : decide (0 ≤ a0_0) = true := decide_eq_true c29
                    clear c29
                    by_cases c30 : a0_0 < (l2.length : Int)
                    · rw [if_pos c30] at H
                      have c30b0 : decide (a0_0 < (l2.length : Int)) = true := decide_eq_true c30
                      clear c30
                      replace H := Option.bind_eq_some_iff.mp H
                      obtain ⟨t151, A310, H⟩ := H
                      replace H : (if t151 = true then (tree_Check.j3 kj19 a0_0 l0_1 l0_2) else (some 8)) = some r := H
                      have A31 := Aside0.mk A310
                      clear A310
                      by_cases c32 : t151 = true
                      · subst c32
                        have H1 : (tree_Check.j3 kj19 a0_0 l0_1 l0_2) = some r := by rw [if_pos rfl] at H; exact H
                        clear H
                        have H := H1
                        clear H1
                        have H' := Aside0.mk H
                        clear H
                        have hcz33_0 : wc.cell? ⟨gb148, 0, none⟩ = some (.int .i64 a0_0) := (blk_cell BK148.out 0).trans rfl
                        have hcz33_1 : wc.cell? ⟨gb148, 1, none⟩ = some (.slice A0_1 l0_1.length c0_1) := (blk_cell BK148.out 1).trans rfl
                        have hcz33_2 : wc.cell? ⟨gb148, 2, none⟩ = some (.slice A0_2 l0_2.length c0_2) := (blk_cell BK148.out 2).trans rfl
                        have hfz33_0 := blk_frozen BK148.out 0
                        have hfz33_1 := blk_frozen BK148.out 1
                        have hfz33_2 := blk_frozen BK148.out 2
                        have p150 : 0 ≤ (a0_0 : Int) := of_decide_eq_true (by first | (with_reducible assumption) | assumption)
                        have q150 : a0_0 < (l2.length : Int) := of_decide_eq_true (by first | (with_reducible assumption) | assumption)
                        obtain ⟨ad150, A150_5, c150_5, A150_6, c150_6, A150_7, c150_7, e150, hx150_0, hx150_1, hx150_2, hx150_3, hx150_4, hx150_5, hx150_6, hx150_7, hx150_8, hx150_9, hx150_10, hl150_5, hi150_5, hl150_6, hi150_6, hl150_7, hi150_7⟩ := at_T32 HR2.out a0_0 p150 q150
                        cases e150
                        replace hx150_0 := (HB.out.cell (World.block_lt_of_cell? w _ hx150_0)).trans hx150_0
                        replace hx150_1 := (HB.out.cell (World.block_lt_of_cell? w _ hx150_1)).trans hx150_1
                        replace hx150_2 := (HB.out.cell (World.block_lt_of_cell? w _ hx150_2)).trans hx150_2
                        replace hx150_3 := (HB.out.cell (World.block_lt_of_cell? w _ hx150_3)).trans hx150_3
                        replace hx150_4 := (HB.out.cell (World.block_lt_of_cell? w _ hx150_4)).trans hx150_4
                        replace hx150_5 := (HB.out.cell (World.block_lt_of_cell? w _ hx150_5)).trans hx150_5
                        replace hx150_6 := (HB.out.cell (World.block_lt_of_cell? w _ hx150_6)).trans hx150_6
                        replace hx150_7 := (HB.out.cell (World.block_lt_of_cell? w _ hx150_7)).trans hx150_7
                        replace hx150_8 := (HB.out.cell (World.block_lt_of_cell? w _ hx150_8)).trans hx150_8
                        replace hx150_9 := (HB.out.cell (World.block_lt_of_cell? w _ hx150_9)).trans hx150_9
                        replace hx150_10 := (HB.out.cell (World.block_lt_of_cell? w _ hx150_10)).trans hx150_10
                        have HR150_5 := Aside0.mk hi150_5
                        have HC150_5 := Aside0.mk hl150_5
                        clear hi150_5 hl150_5
                        have HR150_6 := Aside0.mk hi150_6
                        have HC150_6 := Aside0.mk hl150_6
                        clear hi150_6 hl150_6
                        have HR150_7 := Aside0.mk hi150_7
                        have HC150_7 := Aside0.mk hl150_7
                        clear hi150_7 hl150_7
                        replace p150 := eq_true p150
                        replace q150 := eq_true q150
                        go_wp2_with (go_at_call 11; (with_reducible refine (tree_IsBuffer.calls ((rd_T32 l2 a0_0).f0) ((rd_T32 l2 a0_0).f1) ((rd_T32 l2 a0_0).f2) ((rd_T32 l2 a0_0).f3) ((rd_T32 l2 a0_0).f4) _ _ ((rd_T32 l2 a0_0).f5) _ _ ((rd_T32 l2 a0_0).f6) _ _ ((rd_T32 l2 a0_0).f7) ((rd_T32 l2 a0_0).f8) ((rd_T32 l2 a0_0).f9) ((rd_T32 l2 a0_0).f10) true _ ?side1 ?side2 ?side3 ?side4 ?side5 ?side6 A31.out).mono ?_); (case side1 => repeat (first | exact (Kd.C_below HR150_5.out HB.out) | (with_reducible refine Kd.C_alloc ?_ _) | (with_reducible refine Kd.C_drewN ?_ _) | (with_reducible refine Kd.C_drew ?_))); (case side2 => exact HC150_5.out); (case side3 => repeat (first | exact (Kd.C_below HR150_6.out HB.out) | (with_reducible refine Kd.C_alloc ?_ _) | (with_reducible refine Kd.C_drewN ?_ _) | (with_reducible refine Kd.C_drew ?_))); (case side4 => exact HC150_6.out); (case side5 => repeat (first | exact (Kd.C_below HR150_7.out HB.out) | (with_reducible refine Kd.C_alloc ?_ _) | (with_reducible refine Kd.C_drewN ?_ _) | (with_reducible refine Kd.C_drew ?_))); (case side6 => exact HC150_7.out); rintro e w34 ⟨rfl, hb⟩; have n0_ := Aside0.mk (blk_below (g := gb148) (o := .cells #[.int .i64 a0_0, .slice A0_1 l0_1.length c0_1, .slice A0_2 l0_2.length c0_2] 24 (0, 0)) (by (with_reducible repeat (first | refine blk_drewN ?_ _ | refine blk_drew ?_ | refine blk_alloc ?_ _)); exact BK148.out) hb); have n1_ := Aside0.mk (below_step (by repeat (first | (with_reducible first | exact HB.out | apply below_alloc | apply pw_below_drewN | apply below_drew1 | refine below_set ?_ GE148.out) | exact HB.out)) hb); clear BK148; clear HB; have BK148 := n0_; have HB := n1_; clear n0_ n1_; (try clear hb); (try clear hb2); (try clear hk); (try clear hi))
                        go_meet
                        case rel => exact ⟨_, H', ⟨by have := HJ5.out; have := HJ15.out; have := HJ19.out; first | omega | exact Nat.le_refl _⟩, ⟨by (with_reducible repeat (first | refine blk_drewN ?_ _ | refine blk_drew ?_ | refine blk_alloc ?_ _)); exact BK148.out⟩, ⟨by repeat (first | (with_reducible first | exact HB.out | apply below_alloc | apply pw_below_drewN | apply below_drew1 | refine below_set ?_ GE148.out) | exact HB.out)⟩⟩
                      · replace c32 := Bool.eq_false_iff.mpr c32
                        subst c32
                        have H1 : (some 8) = some r := by rw [if_neg (show ¬ (false = true) by decide)] at H; exact H
                        clear H
                        have H := H1
                        clear H1
                        obtain rfl := Option.some.inj H
                        have hcz35_0 : wc.cell? ⟨gb148, 0, none⟩ = some (.int .i64 a0_0) := (blk_cell BK148.out 0).trans rfl
                        have hcz35_1 : wc.cell? ⟨gb148, 1, none⟩ = some (.slice A0_1 l0_1.length c0_1) := (blk_cell BK148.out 1).trans rfl
                        have hcz35_2 : wc.cell? ⟨gb148, 2, none⟩ = some (.slice A0_2 l0_2.length c0_2) := (blk_cell BK148.out 2).trans rfl
                        have hfz35_0 := blk_frozen BK148.out 0
                        have hfz35_1 := blk_frozen BK148.out 1
                        have hfz35_2 := blk_frozen BK148.out 2
                        have p150 : 0 ≤ (a0_0 : Int) := of_decide_eq_true (by first | (with_reducible assumption) | assumption)
                        have q150 : a0_0 < (l2.length : Int) := of_decide_eq_true (by first | (with_reducible assumption) | assumption)
                        obtain ⟨ad150, A150_5, c150_5, A150_6, c150_6, A150_7, c150_7, e150, hx150_0, hx150_1, hx150_2, hx150_3, hx150_4, hx150_5, hx150_6, hx150_7, hx150_8, hx150_9, hx150_10, hl150_5, hi150_5, hl150_6, hi150_6, hl150_7, hi150_7⟩ := at_T32 HR2.out a0_0 p150 q150
                        cases e150
                        replace hx150_0 := (HB.out.cell (World.block_lt_of_cell? w _ hx150_0)).trans hx150_0
                        replace hx150_1 := (HB.out.cell (World.block_lt_of_cell? w _ hx150_1)).trans hx150_1
                        replace hx150_2 := (HB.out.cell (World.block_lt_of_cell? w _ hx150_2)).trans hx150_2
                        replace hx150_3 := (HB.out.cell (World.block_lt_of_cell? w _ hx150_3)).trans hx150_3
                        replace hx150_4 := (HB.out.cell (World.block_lt_of_cell? w _ hx150_4)).trans hx150_4
                        replace hx150_5 := (HB.out.cell (World.block_lt_of_cell? w _ hx150_5)).trans hx150_5
                        replace hx150_6 := (HB.out.cell (World.block_lt_of_cell? w _ hx150_6)).trans hx150_6
                        replace hx150_7 := (HB.out.cell (World.block_lt_of_cell? w _ hx150_7)).trans hx150_7
                        replace hx150_8 := (HB.out.cell (World.block_lt_of_cell? w _ hx150_8)).trans hx150_8
                        replace hx150_9 := (HB.out.cell (World.block_lt_of_cell? w _ hx150_9)).trans hx150_9
                        replace hx150_10 := (HB.out.cell (World.block_lt_of_cell? w _ hx150_10)).trans hx150_10
                        have HR150_5 := Aside0.mk hi150_5
                        have HC150_5 := Aside0.mk hl150_5
                        clear hi150_5 hl150_5
                        have HR150_6 := Aside0.mk hi150_6
                        have HC150_6 := Aside0.mk hl150_6
                        clear hi150_6 hl150_6
                        have HR150_7 := Aside0.mk hi150_7
                        have HC150_7 := Aside0.mk hl150_7
                        clear hi150_7 hl150_7
                        replace p150 := eq_true p150
                        replace q150 := eq_true q150
                        go_wp2_with (go_at_call 11; (with_reducible refine (tree_IsBuffer.calls ((rd_T32 l2 a0_0).f0) ((rd_T32 l2 a0_0).f1) ((rd_T32 l2 a0_0).f2) ((rd_T32 l2 a0_0).f3) ((rd_T32 l2 a0_0).f4) _ _ ((rd_T32 l2 a0_0).f5) _ _ ((rd_T32 l2 a0_0).f6) _ _ ((rd_T32 l2 a0_0).f7) ((rd_T32 l2 a0_0).f8) ((rd_T32 l2 a0_0).f9) ((rd_T32 l2 a0_0).f10) false _ ?side1 ?side2 ?side3 ?side4 ?side5 ?side6 A31.out).mono ?_); (case side1 => repeat (first | exact (Kd.C_below HR150_5.out HB.out) | (with_reducible refine Kd.C_alloc ?_ _) | (with_reducible refine Kd.C_drewN ?_ _) | (with_reducible refine Kd.C_drew ?_))); (case side2 => exact HC150_5.out); (case side3 => repeat (first | exact (Kd.C_below HR150_6.out HB.out) | (with_reducible refine Kd.C_alloc ?_ _) | (with_reducible refine Kd.C_drewN ?_ _) | (with_reducible refine Kd.C_drew ?_))); (case side4 => exact HC150_6.out); (case side5 => repeat (first | exact (Kd.C_below HR150_7.out HB.out) | (with_reducible refine Kd.C_alloc ?_ _) | (with_reducible refine Kd.C_drewN ?_ _) | (with_reducible refine Kd.C_drew ?_))); (case side6 => exact HC150_7.out); rintro e w36 ⟨rfl, hb⟩; have n0_ := Aside0.mk (blk_below (g := gb148) (o := .cells #[.int .i64 a0_0, .slice A0_1 l0_1.length c0_1, .slice A0_2 l0_2.length c0_2] 24 (0, 0)) (by (with_reducible repeat (first | refine blk_drewN ?_ _ | refine blk_drew ?_ | refine blk_alloc ?_ _)); exact BK148.out) hb); have n1_ := Aside0.mk (below_step (by repeat (first | (with_reducible first | exact HB.out | apply below_alloc | apply pw_below_drewN | apply below_drew1 | refine below_set ?_ GE148.out) | exact HB.out)) hb); clear BK148; clear HB; have BK148 := n0_; have HB := n1_; clear n0_ n1_; (try clear hb); (try clear hb2); (try clear hk); (try clear hi))
                        go_ret
                        exact ⟨by first | rfl | (simp [errW_none, errW_some] <;> rfl) | (simp [*, errW_none, errW_some] <;> rfl), by repeat (first | (with_reducible first | exact HB.out | apply below_alloc | apply pw_below_drewN | apply below_drew1 | refine below_set ?_ GE148.out) | exact HB.out)⟩
                    · rw [if_neg c30] at H
                      exact absurd H (by simp)
                  · rw [if_neg c29] at H
                    exact absurd H (by simp)
                · rw [if_neg c28] at H
                  have c28b0 : decide (0 < (l0_1.length : Int)) = false := decide_eq_false c28
                  have c28b1 : decide (0 < l0_1.length) = false := decide_eq_false (by omega)
                  clear c28
                  have H' := Aside0.mk H
                  clear H
                  have hcz37_0 : wc.cell? ⟨gb148, 0, none⟩ = some (.int .i64 a0_0) := (blk_cell BK148.out 0).trans rfl
                  have hcz37_1 : wc.cell? ⟨gb148, 1, none⟩ = some (.slice A0_1 l0_1.length c0_1) := (blk_cell BK148.out 1).trans rfl
                  have hcz37_2 : wc.cell? ⟨gb148, 2, none⟩ = some (.slice A0_2 l0_2.length c0_2) := (blk_cell BK148.out 2).trans rfl
                  have hfz37_0 := blk_frozen BK148.out 0
                  have hfz37_1 := blk_frozen BK148.out 1
                  have hfz37_2 := blk_frozen BK148.out 2
                  go_wp2
                  go_meet
                  case rel => exact ⟨_, H', ⟨by have := HJ5.out; have := HJ15.out; have := HJ19.out; first | omega | exact Nat.le_refl _⟩, ⟨by (with_reducible repeat (first | refine blk_drewN ?_ _ | refine blk_drew ?_ | refine blk_alloc ?_ _)); exact BK148.out⟩, ⟨by repeat (first | (with_reducible first | exact HB.out | apply below_alloc | apply pw_below_drewN | apply below_drew1 | refine below_set ?_ GE148.out) | exact HB.out)⟩⟩
         case rest =>
          clear HC14
          clear c13b0 c13b1 hcz15_0 hcz15_1 hcz15_2 hfz15_0 hfz15_1 hfz15_2
          obtain ⟨kq, HA, HJ13, BK148, HB⟩ := hcut
          cases kq with
          | zero => exact absurd HA.out (by simp [tree_Check.j3])
          | succ kj13 =>
           have H := HA.out
           clear HA
           simp only [tree_Check.j3] at H
           have H' := Aside0.mk H
           clear H
           have hcz38_0 : wc.cell? ⟨gb148, 0, none⟩ = some (.int .i64 a0_0) := (blk_cell BK148.out 0).trans rfl
           have hcz38_1 : wc.cell? ⟨gb148, 1, none⟩ = some (.slice A0_1 l0_1.length c0_1) := (blk_cell BK148.out 1).trans rfl
           have hcz38_2 : wc.cell? ⟨gb148, 2, none⟩ = some (.slice A0_2 l0_2.length c0_2) := (blk_cell BK148.out 2).trans rfl
           have hfz38_0 := blk_frozen BK148.out 0
           have hfz38_1 := blk_frozen BK148.out 1
           have hfz38_2 := blk_frozen BK148.out 2
           go_wp2
           go_loopg [77] kj13 (fun kq v77 w' => ∃ (x77_3 : Int), v77 = .int .i64 x77_3 ∧ Aside0 (tree_Check.l0 kq l0_1 (l0_1.length : Int) x77_3 a0_0 l0_1 l0_2 = some r) ∧ Aside0 (kq ≤ kj13) ∧ Aside0 (w'.heap[gb148]? = some (.cells #[.int .i64 a0_0, (.slice A0_1 l0_1.length c0_1), (.slice A0_2 l0_2.length c0_2)] 24 (0, 0))) ∧ Aside0 (Below w.heap.size w w'))
           case atStart => exact ⟨(0), (by first | rfl | (simp; done) | (simp [*]; done)), H', ⟨Nat.le_refl _⟩, ⟨by (with_reducible repeat (first | refine blk_drewN ?_ _ | refine blk_drew ?_ | refine blk_alloc ?_ _)); exact BK148.out⟩, ⟨by repeat (first | (with_reducible first | exact HB.out | apply below_alloc | apply pw_below_drewN | apply below_drew1 | refine below_set ?_ GE148.out) | exact HB.out)⟩⟩
           case round =>
            clear H'
            clear hcz38_0 hcz38_1 hcz38_2 hfz38_0 hfz38_1 hfz38_2
            obtain ⟨x77_3, rfl, HA, HK3, BK148, HB⟩ := hrel
            cases gk with
            | zero => exact absurd HA.out (by simp [tree_Check.l0])
            | succ k3 =>
             have H := HA.out
             clear HA
             simp only [tree_Check.l0] at H
             by_cases c39 : x77_3 < (l0_1.length : Int)
             · rw [if_pos c39] at H
               have c39b0 : decide (x77_3 < (l0_1.length : Int)) = true := decide_eq_true c39
               clear c39
               by_cases c40 : 0 ≤ x77_3
               · rw [if_pos c40] at H
                 have c40b0 : decide (0 ≤ x77_3) = true := decide_eq_true c40
                 clear c40
                 by_cases c41 : x77_3 < (l0_1.length : Int)
                 · rw [if_pos c41] at H
                   have c41b0 : decide (x77_3 < (l0_1.length : Int)) = true := decide_eq_true c41
                   clear c41
                   by_cases c42 : (rd l0_1 x77_3) < (-1)
                   · rw [if_pos c42] at H
                     have c42b0 : decide ((rd l0_1 x77_3) < (-1)) = true := decide_eq_true c42
                     clear c42
                     obtain rfl := Option.some.inj H
                     have p152 : 0 ≤ (x77_3 : Int) := of_decide_eq_true (by first | (with_reducible assumption) | assumption)
                     have q152 : x77_3 < (l0_1.length : Int) := of_decide_eq_true (by first | (with_reducible assumption) | assumption)
                     obtain ⟨ad152, e152, hx152_0⟩ := Kd.at_int HR0_1.out x77_3 p152 q152
                     cases e152
                     replace hx152_0 := (HB.out.cell (World.block_lt_of_cell? w _ hx152_0)).trans hx152_0
                     replace p152 := eq_true p152
                     replace q152 := eq_true q152
                     go_wp2
                     go_ret
                     exact ⟨by first | rfl | (simp [errW_none, errW_some] <;> rfl) | (simp [*, errW_none, errW_some] <;> rfl), by repeat (first | (with_reducible first | exact HB.out | apply below_alloc | apply pw_below_drewN | apply below_drew1 | refine below_set ?_ GE148.out) | exact HB.out)⟩
                   · rw [if_neg c42] at H
                     have c42b0 : decide ((rd l0_1 x77_3) < (-1)) = false := decide_eq_false c42
                     clear c42
                     by_cases c43 : (rd l0_1 x77_3) ≥ x77_3
                     · rw [if_pos c43] at H
                       have c43b0 : decide (x77_3 ≤ (rd l0_1 x77_3)) = true := decide_eq_true c43
                       clear c43
                       obtain rfl := Option.some.inj H
                       have p152 : 0 ≤ (x77_3 : Int) := of_decide_eq_true (by first | (with_reducible assumption) | assumption)
                       have q152 : x77_3 < (l0_1.length : Int) := of_decide_eq_true (by first | (with_reducible assumption) | assumption)
                       obtain ⟨ad152, e152, hx152_0⟩ := Kd.at_int HR0_1.out x77_3 p152 q152
                       cases e152
                       replace hx152_0 := (HB.out.cell (World.block_lt_of_cell? w _ hx152_0)).trans hx152_0
                       replace p152 := eq_true p152
                       replace q152 := eq_true q152
                       go_wp2
                       go_ret
                       exact ⟨by first | rfl | (simp [errW_none, errW_some] <;> rfl) | (simp [*, errW_none, errW_some] <;> rfl), by repeat (first | (with_reducible first | exact HB.out | apply below_alloc | apply pw_below_drewN | apply below_drew1 | refine below_set ?_ GE148.out) | exact HB.out)⟩
                     · rw [if_neg c43] at H
                       have c43b0 : decide (x77_3 ≤ (rd l0_1 x77_3)) = false := decide_eq_false c43
                       clear c43
                       have H' := Aside0.mk H
                       clear H
                       have p152 : 0 ≤ (x77_3 : Int) := of_decide_eq_true (by first | (with_reducible assumption) | assumption)
                       have q152 : x77_3 < (l0_1.length : Int) := of_decide_eq_true (by first | (with_reducible assumption) | assumption)
                       obtain ⟨ad152, e152, hx152_0⟩ := Kd.at_int HR0_1.out x77_3 p152 q152
                       cases e152
                       replace hx152_0 := (HB.out.cell (World.block_lt_of_cell? w _ hx152_0)).trans hx152_0
                       replace p152 := eq_true p152
                       replace q152 := eq_true q152
                       go_wp2
                       go_roundg k3
                       case measure => have := HJ5.out; have := HJ13.out; have := HK3.out; omega
                       case rel => exact ⟨(wrap64 (x77_3 + 1)), (by first | rfl | (simp; done) | (simp [*]; done)), H', ⟨by have := HJ5.out; have := HJ13.out; have := HK3.out; omega⟩, ⟨by (with_reducible repeat (first | refine blk_drewN ?_ _ | refine blk_drew ?_ | refine blk_alloc ?_ _)); exact BK148.out⟩, ⟨by repeat (first | (with_reducible first | exact HB.out | apply below_alloc | apply pw_below_drewN | apply below_drew1 | refine below_set ?_ GE148.out) | exact HB.out)⟩⟩
                 · rw [if_neg c41] at H
                   exact absurd H (by simp)
               · rw [if_neg c40] at H
                 exact absurd H (by simp)
             · rw [if_neg c39] at H
               have c39b0 : decide (x77_3 < (l0_1.length : Int)) = false := decide_eq_false c39
               clear c39
               have H' := Aside0.mk H
               clear H
               have hcz44_0 : wr.cell? ⟨gb148, 0, none⟩ = some (.int .i64 a0_0) := (blk_cell BK148.out 0).trans rfl
               have hcz44_1 : wr.cell? ⟨gb148, 1, none⟩ = some (.slice A0_1 l0_1.length c0_1) := (blk_cell BK148.out 1).trans rfl
               have hcz44_2 : wr.cell? ⟨gb148, 2, none⟩ = some (.slice A0_2 l0_2.length c0_2) := (blk_cell BK148.out 2).trans rfl
               have hfz44_0 := blk_frozen BK148.out 0
               have hfz44_1 := blk_frozen BK148.out 1
               have hfz44_2 := blk_frozen BK148.out 2
               go_wp2
               go_loopg [93] k3 (fun kq v93 w' => ∃ (x93_4 : Int), v93 = .int .i64 x93_4 ∧ Aside0 (tree_Check.l1 kq l0_2 (l0_2.length : Int) x93_4 a0_0 l0_1 l0_2 = some r) ∧ Aside0 (kq ≤ k3) ∧ Aside0 (w'.heap[gb148]? = some (.cells #[.int .i64 a0_0, (.slice A0_1 l0_1.length c0_1), (.slice A0_2 l0_2.length c0_2)] 24 (0, 0))) ∧ Aside0 (Below w.heap.size w w'))
               case atStart => exact ⟨(0), (by first | rfl | (simp; done) | (simp [*]; done)), H', ⟨Nat.le_refl _⟩, ⟨by (with_reducible repeat (first | refine blk_drewN ?_ _ | refine blk_drew ?_ | refine blk_alloc ?_ _)); exact BK148.out⟩, ⟨by repeat (first | (with_reducible first | exact HB.out | apply below_alloc | apply pw_below_drewN | apply below_drew1 | refine below_set ?_ GE148.out) | exact HB.out)⟩⟩
               case round =>
                clear H'
                clear c39b0 hcz44_0 hcz44_1 hcz44_2 hfz44_0 hfz44_1 hfz44_2
                obtain ⟨x93_4, rfl, HA, HK4, BK148, HB⟩ := hrel
                cases gk with
                | zero => exact absurd HA.out (by simp [tree_Check.l1])
                | succ k4 =>
                 have H := HA.out
                 clear HA
                 simp only [tree_Check.l1] at H
                 by_cases c45 : x93_4 < (l0_2.length : Int)
                 · rw [if_pos c45] at H
                   have c45b0 : decide (x93_4 < (l0_2.length : Int)) = true := decide_eq_true c45
                   clear c45
                   by_cases c46 : 0 ≤ x93_4
                   · rw [if_pos c46] at H
                     have c46b0 : decide (0 ≤ x93_4) = true := decide_eq_true c46
                     clear c46
                     by_cases c47 : x93_4 < (l0_2.length : Int)
                     · rw [if_pos c47] at H
                       have c47b0 : decide (x93_4 < (l0_2.length : Int)) = true := decide_eq_true c47
                       clear c47
                       by_cases c48 : (rd l0_2 x93_4) < (-1)
                       · rw [if_pos c48] at H
                         have c48b0 : decide ((rd l0_2 x93_4) < (-1)) = true := decide_eq_true c48
                         clear c48
                         obtain rfl := Option.some.inj H
                         have p153 : 0 ≤ (x93_4 : Int) := of_decide_eq_true (by first | (with_reducible assumption) | assumption)
                         have q153 : x93_4 < (l0_2.length : Int) := of_decide_eq_true (by first | (with_reducible assumption) | assumption)
                         obtain ⟨ad153, e153, hx153_0⟩ := Kd.at_int HR0_2.out x93_4 p153 q153
                         cases e153
                         replace hx153_0 := (HB.out.cell (World.block_lt_of_cell? w _ hx153_0)).trans hx153_0
                         replace p153 := eq_true p153
                         replace q153 := eq_true q153
                         go_wp2
                         go_ret
                         exact ⟨by first | rfl | (simp [errW_none, errW_some] <;> rfl) | (simp [*, errW_none, errW_some] <;> rfl), by repeat (first | (with_reducible first | exact HB.out | apply below_alloc | apply pw_below_drewN | apply below_drew1 | refine below_set ?_ GE148.out) | exact HB.out)⟩
                       · rw [if_neg c48] at H
                         have c48b0 : decide ((rd l0_2 x93_4) < (-1)) = false := decide_eq_false c48
                         clear c48
                         by_cases c49 : (rd l0_2 x93_4) ≥ (l0_1.length : Int)
                         · rw [if_pos c49] at H
                           have c49b0 : decide ((l0_1.length : Int) ≤ (rd l0_2 x93_4)) = true := decide_eq_true c49
                           clear c49
                           obtain rfl := Option.some.inj H
                           have p153 : 0 ≤ (x93_4 : Int) := of_decide_eq_true (by first | (with_reducible assumption) | assumption)
                           have q153 : x93_4 < (l0_2.length : Int) := of_decide_eq_true (by first | (with_reducible assumption) | assumption)
                           obtain ⟨ad153, e153, hx153_0⟩ := Kd.at_int HR0_2.out x93_4 p153 q153
                           cases e153
                           replace hx153_0 := (HB.out.cell (World.block_lt_of_cell? w _ hx153_0)).trans hx153_0
                           replace p153 := eq_true p153
                           replace q153 := eq_true q153
                           have hcz50_0 : wr.cell? ⟨gb148, 0, none⟩ = some (.int .i64 a0_0) := (blk_cell BK148.out 0).trans rfl
                           have hcz50_1 : wr.cell? ⟨gb148, 1, none⟩ = some (.slice A0_1 l0_1.length c0_1) := (blk_cell BK148.out 1).trans rfl
                           have hcz50_2 : wr.cell? ⟨gb148, 2, none⟩ = some (.slice (some ad153) l0_2.length c0_2) := (blk_cell BK148.out 2).trans rfl
                           have hfz50_0 := blk_frozen BK148.out 0
                           have hfz50_1 := blk_frozen BK148.out 1
                           have hfz50_2 := blk_frozen BK148.out 2
                           go_wp2
                           go_ret
                           exact ⟨by first | rfl | (simp [errW_none, errW_some] <;> rfl) | (simp [*, errW_none, errW_some] <;> rfl), by repeat (first | (with_reducible first | exact HB.out | apply below_alloc | apply pw_below_drewN | apply below_drew1 | refine below_set ?_ GE148.out) | exact HB.out)⟩
                         · rw [if_neg c49] at H
                           have c49b0 : decide ((l0_1.length : Int) ≤ (rd l0_2 x93_4)) = false := decide_eq_false c49
                           clear c49
                           have H' := Aside0.mk H
                           clear H
                           have p153 : 0 ≤ (x93_4 : Int) := of_decide_eq_true (by first | (with_reducible assumption) | assumption)
                           have q153 : x93_4 < (l0_2.length : Int) := of_decide_eq_true (by first | (with_reducible assumption) | assumption)
                           obtain ⟨ad153, e153, hx153_0⟩ := Kd.at_int HR0_2.out x93_4 p153 q153
                           cases e153
                           replace hx153_0 := (HB.out.cell (World.block_lt_of_cell? w _ hx153_0)).trans hx153_0
                           replace p153 := eq_true p153
                           replace q153 := eq_true q153
                           have hcz51_0 : wr.cell? ⟨gb148, 0, none⟩ = some (.int .i64 a0_0) := (blk_cell BK148.out 0).trans rfl
                           have hcz51_1 : wr.cell? ⟨gb148, 1, none⟩ = some (.slice A0_1 l0_1.length c0_1) := (blk_cell BK148.out 1).trans rfl
                           have hcz51_2 : wr.cell? ⟨gb148, 2, none⟩ = some (.slice (some ad153) l0_2.length c0_2) := (blk_cell BK148.out 2).trans rfl
                           have hfz51_0 := blk_frozen BK148.out 0
                           have hfz51_1 := blk_frozen BK148.out 1
                           have hfz51_2 := blk_frozen BK148.out 2
                           go_wp2
                           go_roundg k4
                           case measure => have := HJ5.out; have := HJ13.out; have := HK3.out; have := HK4.out; omega
                           case rel => exact ⟨(wrap64 (x93_4 + 1)), (by first | rfl | (simp; done) | (simp [*]; done)), H', ⟨by have := HJ5.out; have := HJ13.out; have := HK3.out; have := HK4.out; omega⟩, ⟨by (with_reducible repeat (first | refine blk_drewN ?_ _ | refine blk_drew ?_ | refine blk_alloc ?_ _)); exact BK148.out⟩, ⟨by repeat (first | (with_reducible first | exact HB.out | apply below_alloc | apply pw_below_drewN | apply below_drew1 | refine below_set ?_ GE148.out) | exact HB.out)⟩⟩
                     · rw [if_neg c47] at H
                       exact absurd H (by simp)
                   · rw [if_neg c46] at H
                     exact absurd H (by simp)
                 · rw [if_neg c45] at H
                   have c45b0 : decide (x93_4 < (l0_2.length : Int)) = false := decide_eq_false c45
                   clear c45
                   have H' := Aside0.mk H
                   clear H
                   go_wp2
                   go_loopg [12] k4 (fun kq v12 w' => ∃ (x12_5 : Int), v12 = .int .i64 x12_5 ∧ Aside0 (tree_Check.l2 kq x12_5 a0_0 l0_1 l0_2 = some r) ∧ Aside0 (kq ≤ k4) ∧ Aside0 (w'.heap[gb148]? = some (.cells #[.int .i64 a0_0, (.slice A0_1 l0_1.length c0_1), (.slice A0_2 l0_2.length c0_2)] 24 (0, 0))) ∧ Aside0 (Below w.heap.size w w'))
                   case atStart => exact ⟨((-1)), (by first | rfl | (simp; done) | (simp [*]; done)), H', ⟨Nat.le_refl _⟩, ⟨by (with_reducible repeat (first | refine blk_drewN ?_ _ | refine blk_drew ?_ | refine blk_alloc ?_ _)); exact BK148.out⟩, ⟨by repeat (first | (with_reducible first | exact HB.out | apply below_alloc | apply pw_below_drewN | apply below_drew1 | refine below_set ?_ GE148.out) | exact HB.out)⟩⟩
                   case round =>
                    clear H'
                    clear c45b0
                    obtain ⟨x12_5, rfl, HA, HK5, BK148, HB⟩ := hrel
                    cases gk with
                    | zero => exact absurd HA.out (by simp [tree_Check.l2])
                    | succ k5 =>
                     have H := HA.out
                     clear HA
                     simp only [tree_Check.l2] at H
                     by_cases c52 : x12_5 < (l0_1.length : Int)
                     · rw [if_pos c52] at H
                       have c52b0 : decide (x12_5 < (l0_1.length : Int)) = true := decide_eq_true c52
                       clear c52
                       replace H := Option.bind_eq_some_iff.mp H
                       obtain ⟨⟨t154, t157⟩, A530, H⟩ := H
                       replace H : (if (wrap64 ((t154.length : Int) + (t157.length : Int))) > 8 then (some 14) else (if (wrap64 ((t154.length : Int) + (t157.length : Int))) = 0 then (if x12_5 ≥ 0 then (some 18) else (tree_Check.l2 k5 (wrap64 (x12_5 + 1)) a0_0 l0_1 l0_2)) else (tree_Check.l2 k5 (wrap64 (x12_5 + 1)) a0_0 l0_1 l0_2))) = some r := H
                       have A53 := Aside0.mk A530
                       clear A530
                       by_cases c54 : (wrap64 ((t154.length : Int) + (t157.length : Int))) > 8
                       · rw [if_pos c54] at H
                         have c54b0 : decide (8 < (wrap64 ((t154.length : Int) + (t157.length : Int)))) = true := decide_eq_true c54
                         clear c54
                         obtain rfl := Option.some.inj H
                         have hcz55_0 : wr.cell? ⟨gb148, 0, none⟩ = some (.int .i64 a0_0) := (blk_cell BK148.out 0).trans rfl
                         have hcz55_1 : wr.cell? ⟨gb148, 1, none⟩ = some (.slice A0_1 l0_1.length c0_1) := (blk_cell BK148.out 1).trans rfl
                         have hcz55_2 : wr.cell? ⟨gb148, 2, none⟩ = some (.slice A0_2 l0_2.length c0_2) := (blk_cell BK148.out 2).trans rfl
                         have hfz55_0 := blk_frozen BK148.out 0
                         have hfz55_1 := blk_frozen BK148.out 1
                         have hfz55_2 := blk_frozen BK148.out 2
                         go_wp2_with ((with_reducible refine gate_callee (f := 13) rfl ?_); refine goesL_ (some 117) rfl rfl Try.func13 (by kernel_rfl) rfl #[.agg #[.int .i64 a0_0, .slice A0_1 l0_1.length c0_1, .slice A0_2 l0_2.length c0_2], .int .i64 x12_5] rfl (by (try simp only [List.map_toArray, List.map_cons, List.map_nil]); first | done | rfl | (simp only [List.length_drop, List.length_take]; rfl)) ?_; (with_reducible refine (tree_Kids.calls k5 a0_0 _ _ l0_1 _ _ l0_2 x12_5 t154 t157 _ ?side1 ?side2 ?side3 ?side4 A53.out).mono ?_); (case side1 => repeat (first | exact (Kd.C_below HR0_1.out HB.out) | (with_reducible refine Kd.C_alloc ?_ _) | (with_reducible refine Kd.C_drewN ?_ _) | (with_reducible refine Kd.C_drew ?_))); (case side2 => exact HC0_1.out); (case side3 => repeat (first | exact (Kd.C_below HR0_2.out HB.out) | (with_reducible refine Kd.C_alloc ?_ _) | (with_reducible refine Kd.C_drewN ?_ _) | (with_reducible refine Kd.C_drew ?_))); (case side4 => exact HC0_2.out); rintro e w56 ⟨v155, v158, rfl, ho0, ho1, hb⟩; refine ⟨_, rfl, ?_⟩; have n0_ := Aside0.mk (Kd.R_lower ho0 (below_size (by repeat (first | (with_reducible first | exact HB.out | apply below_alloc | apply pw_below_drewN | apply below_drew1 | refine below_set ?_ GE148.out) | exact HB.out)))); have n1_ := Aside0.mk (Kd.R_lower ho1 (below_size (by repeat (first | (with_reducible first | exact HB.out | apply below_alloc | apply pw_below_drewN | apply below_drew1 | refine below_set ?_ GE148.out) | exact HB.out)))); have n2_ := Aside0.mk (blk_below (g := gb148) (o := .cells #[.int .i64 a0_0, .slice A0_1 l0_1.length c0_1, .slice A0_2 l0_2.length c0_2] 24 (0, 0)) (by (with_reducible repeat (first | refine blk_drewN ?_ _ | refine blk_drew ?_ | refine blk_alloc ?_ _)); exact BK148.out) hb); have n3_ := Aside0.mk (below_step (by repeat (first | (with_reducible first | exact HB.out | apply below_alloc | apply pw_below_drewN | apply below_drew1 | refine below_set ?_ GE148.out) | exact HB.out)) hb); clear BK148; clear HB; have HO156 := n0_; have HO159 := n1_; have BK148 := n2_; have HB := n3_; clear n0_ n1_ n2_ n3_; (try clear hb); (try clear hb2); (try clear hk); (try clear hi); (try clear ho0); (try clear ho1); obtain ⟨Ao57, co57, eo57⟩ := Kd.R_slice HO156.out; subst eo57; obtain ⟨Ao58, co58, eo58⟩ := Kd.R_slice HO159.out; subst eo58)
                         go_ret
                         exact ⟨by first | rfl | (simp [errW_none, errW_some] <;> rfl) | (simp [*, errW_none, errW_some] <;> rfl), by repeat (first | (with_reducible first | exact HB.out | apply below_alloc | apply pw_below_drewN | apply below_drew1 | refine below_set ?_ GE148.out) | exact HB.out)⟩
                       · rw [if_neg c54] at H
                         have c54b0 : decide (8 < (wrap64 ((t154.length : Int) + (t157.length : Int)))) = false := decide_eq_false c54
                         clear c54
                         by_cases c59 : (wrap64 ((t154.length : Int) + (t157.length : Int))) = 0
                         · rw [if_pos c59] at H
                           have c59b0 : ((wrap64 ((t154.length : Int) + (t157.length : Int))) == 0) = true := beq_iff_eq.mpr c59
                           have c59b1 : ((wrap64 ((t154.length : Int) + (t157.length : Int))) != 0) = false := bne_eq_false_iff_eq.mpr c59
                           clear c59
                           by_cases c60 : x12_5 ≥ 0
                           · rw [if_pos c60] at H
                             have c60b0 : decide (0 ≤ x12_5) = true := decide_eq_true c60
                             clear c60
                             obtain rfl := Option.some.inj H
                             have hcz61_0 : wr.cell? ⟨gb148, 0, none⟩ = some (.int .i64 a0_0) := (blk_cell BK148.out 0).trans rfl
                             have hcz61_1 : wr.cell? ⟨gb148, 1, none⟩ = some (.slice A0_1 l0_1.length c0_1) := (blk_cell BK148.out 1).trans rfl
                             have hcz61_2 : wr.cell? ⟨gb148, 2, none⟩ = some (.slice A0_2 l0_2.length c0_2) := (blk_cell BK148.out 2).trans rfl
                             have hfz61_0 := blk_frozen BK148.out 0
                             have hfz61_1 := blk_frozen BK148.out 1
                             have hfz61_2 := blk_frozen BK148.out 2
                             go_wp2_with ((with_reducible refine gate_callee (f := 13) rfl ?_); refine goesL_ (some 117) rfl rfl Try.func13 (by kernel_rfl) rfl #[.agg #[.int .i64 a0_0, .slice A0_1 l0_1.length c0_1, .slice A0_2 l0_2.length c0_2], .int .i64 x12_5] rfl (by (try simp only [List.map_toArray, List.map_cons, List.map_nil]); first | done | rfl | (simp only [List.length_drop, List.length_take]; rfl)) ?_; (with_reducible refine (tree_Kids.calls k5 a0_0 _ _ l0_1 _ _ l0_2 x12_5 t154 t157 _ ?side1 ?side2 ?side3 ?side4 A53.out).mono ?_); (case side1 => repeat (first | exact (Kd.C_below HR0_1.out HB.out) | (with_reducible refine Kd.C_alloc ?_ _) | (with_reducible refine Kd.C_drewN ?_ _) | (with_reducible refine Kd.C_drew ?_))); (case side2 => exact HC0_1.out); (case side3 => repeat (first | exact (Kd.C_below HR0_2.out HB.out) | (with_reducible refine Kd.C_alloc ?_ _) | (with_reducible refine Kd.C_drewN ?_ _) | (with_reducible refine Kd.C_drew ?_))); (case side4 => exact HC0_2.out); rintro e w62 ⟨v155, v158, rfl, ho0, ho1, hb⟩; refine ⟨_, rfl, ?_⟩; have n0_ := Aside0.mk (Kd.R_lower ho0 (below_size (by repeat (first | (with_reducible first | exact HB.out | apply below_alloc | apply pw_below_drewN | apply below_drew1 | refine below_set ?_ GE148.out) | exact HB.out)))); have n1_ := Aside0.mk (Kd.R_lower ho1 (below_size (by repeat (first | (with_reducible first | exact HB.out | apply below_alloc | apply pw_below_drewN | apply below_drew1 | refine below_set ?_ GE148.out) | exact HB.out)))); have n2_ := Aside0.mk (blk_below (g := gb148) (o := .cells #[.int .i64 a0_0, .slice A0_1 l0_1.length c0_1, .slice A0_2 l0_2.length c0_2] 24 (0, 0)) (by (with_reducible repeat (first | refine blk_drewN ?_ _ | refine blk_drew ?_ | refine blk_alloc ?_ _)); exact BK148.out) hb); have n3_ := Aside0.mk (below_step (by repeat (first | (with_reducible first | exact HB.out | apply below_alloc | apply pw_below_drewN | apply below_drew1 | refine below_set ?_ GE148.out) | exact HB.out)) hb); clear BK148; clear HB; have HO156 := n0_; have HO159 := n1_; have BK148 := n2_; have HB := n3_; clear n0_ n1_ n2_ n3_; (try clear hb); (try clear hb2); (try clear hk); (try clear hi); (try clear ho0); (try clear ho1); obtain ⟨Ao63, co63, eo63⟩ := Kd.R_slice HO156.out; subst eo63; obtain ⟨Ao64, co64, eo64⟩ := Kd.R_slice HO159.out; subst eo64)
                             go_ret
                             exact ⟨by first | rfl | (simp [errW_none, errW_some] <;> rfl) | (simp [*, errW_none, errW_some] <;> rfl), by repeat (first | (with_reducible first | exact HB.out | apply below_alloc | apply pw_below_drewN | apply below_drew1 | refine below_set ?_ GE148.out) | exact HB.out)⟩
                           · rw [if_neg c60] at H
                             have c60b0 : decide (0 ≤ x12_5) = false := decide_eq_false c60
                             clear c60
                             have H' := Aside0.mk H
                             clear H
                             have hcz65_0 : wr.cell? ⟨gb148, 0, none⟩ = some (.int .i64 a0_0) := (blk_cell BK148.out 0).trans rfl
                             have hcz65_1 : wr.cell? ⟨gb148, 1, none⟩ = some (.slice A0_1 l0_1.length c0_1) := (blk_cell BK148.out 1).trans rfl
                             have hcz65_2 : wr.cell? ⟨gb148, 2, none⟩ = some (.slice A0_2 l0_2.length c0_2) := (blk_cell BK148.out 2).trans rfl
                             have hfz65_0 := blk_frozen BK148.out 0
                             have hfz65_1 := blk_frozen BK148.out 1
                             have hfz65_2 := blk_frozen BK148.out 2
                             go_wp2_with ((with_reducible refine gate_callee (f := 13) rfl ?_); refine goesL_ (some 117) rfl rfl Try.func13 (by kernel_rfl) rfl #[.agg #[.int .i64 a0_0, .slice A0_1 l0_1.length c0_1, .slice A0_2 l0_2.length c0_2], .int .i64 x12_5] rfl (by (try simp only [List.map_toArray, List.map_cons, List.map_nil]); first | done | rfl | (simp only [List.length_drop, List.length_take]; rfl)) ?_; (with_reducible refine (tree_Kids.calls k5 a0_0 _ _ l0_1 _ _ l0_2 x12_5 t154 t157 _ ?side1 ?side2 ?side3 ?side4 A53.out).mono ?_); (case side1 => repeat (first | exact (Kd.C_below HR0_1.out HB.out) | (with_reducible refine Kd.C_alloc ?_ _) | (with_reducible refine Kd.C_drewN ?_ _) | (with_reducible refine Kd.C_drew ?_))); (case side2 => exact HC0_1.out); (case side3 => repeat (first | exact (Kd.C_below HR0_2.out HB.out) | (with_reducible refine Kd.C_alloc ?_ _) | (with_reducible refine Kd.C_drewN ?_ _) | (with_reducible refine Kd.C_drew ?_))); (case side4 => exact HC0_2.out); rintro e w66 ⟨v155, v158, rfl, ho0, ho1, hb⟩; refine ⟨_, rfl, ?_⟩; have n0_ := Aside0.mk (Kd.R_lower ho0 (below_size (by repeat (first | (with_reducible first | exact HB.out | apply below_alloc | apply pw_below_drewN | apply below_drew1 | refine below_set ?_ GE148.out) | exact HB.out)))); have n1_ := Aside0.mk (Kd.R_lower ho1 (below_size (by repeat (first | (with_reducible first | exact HB.out | apply below_alloc | apply pw_below_drewN | apply below_drew1 | refine below_set ?_ GE148.out) | exact HB.out)))); have n2_ := Aside0.mk (blk_below (g := gb148) (o := .cells #[.int .i64 a0_0, .slice A0_1 l0_1.length c0_1, .slice A0_2 l0_2.length c0_2] 24 (0, 0)) (by (with_reducible repeat (first | refine blk_drewN ?_ _ | refine blk_drew ?_ | refine blk_alloc ?_ _)); exact BK148.out) hb); have n3_ := Aside0.mk (below_step (by repeat (first | (with_reducible first | exact HB.out | apply below_alloc | apply pw_below_drewN | apply below_drew1 | refine below_set ?_ GE148.out) | exact HB.out)) hb); clear BK148; clear HB; have HO156 := n0_; have HO159 := n1_; have BK148 := n2_; have HB := n3_; clear n0_ n1_ n2_ n3_; (try clear hb); (try clear hb2); (try clear hk); (try clear hi); (try clear ho0); (try clear ho1); obtain ⟨Ao67, co67, eo67⟩ := Kd.R_slice HO156.out; subst eo67; obtain ⟨Ao68, co68, eo68⟩ := Kd.R_slice HO159.out; subst eo68)
                             go_roundg k5
                             case measure => have := HJ5.out; have := HJ13.out; have := HK3.out; have := HK4.out; have := HK5.out; omega
                             case rel => exact ⟨(wrap64 (x12_5 + 1)), (by first | rfl | (simp; done) | (simp [*]; done)), H', ⟨by have := HJ5.out; have := HJ13.out; have := HK3.out; have := HK4.out; have := HK5.out; omega⟩, ⟨by (with_reducible repeat (first | refine blk_drewN ?_ _ | refine blk_drew ?_ | refine blk_alloc ?_ _)); exact BK148.out⟩, ⟨by repeat (first | (with_reducible first | exact HB.out | apply below_alloc | apply pw_below_drewN | apply below_drew1 | refine below_set ?_ GE148.out) | exact HB.out)⟩⟩
                         · rw [if_neg c59] at H
                           have c59b0 : ((wrap64 ((t154.length : Int) + (t157.length : Int))) == 0) = false := beq_eq_false_iff_ne.mpr c59
                           have c59b1 : ((wrap64 ((t154.length : Int) + (t157.length : Int))) != 0) = true := bne_iff_ne.mpr c59
                           have H' := Aside0.mk H
                           clear H
                           have hcz69_0 : wr.cell? ⟨gb148, 0, none⟩ = some (.int .i64 a0_0) := (blk_cell BK148.out 0).trans rfl
                           have hcz69_1 : wr.cell? ⟨gb148, 1, none⟩ = some (.slice A0_1 l0_1.length c0_1) := (blk_cell BK148.out 1).trans rfl
                           have hcz69_2 : wr.cell? ⟨gb148, 2, none⟩ = some (.slice A0_2 l0_2.length c0_2) := (blk_cell BK148.out 2).trans rfl
                           have hfz69_0 := blk_frozen BK148.out 0
                           have hfz69_1 := blk_frozen BK148.out 1
                           have hfz69_2 := blk_frozen BK148.out 2
                           go_wp2_with ((with_reducible refine gate_callee (f := 13) rfl ?_); refine goesL_ (some 117) rfl rfl Try.func13 (by kernel_rfl) rfl #[.agg #[.int .i64 a0_0, .slice A0_1 l0_1.length c0_1, .slice A0_2 l0_2.length c0_2], .int .i64 x12_5] rfl (by (try simp only [List.map_toArray, List.map_cons, List.map_nil]); first | done | rfl | (simp only [List.length_drop, List.length_take]; rfl)) ?_; (with_reducible refine (tree_Kids.calls k5 a0_0 _ _ l0_1 _ _ l0_2 x12_5 t154 t157 _ ?side1 ?side2 ?side3 ?side4 A53.out).mono ?_); (case side1 => repeat (first | exact (Kd.C_below HR0_1.out HB.out) | (with_reducible refine Kd.C_alloc ?_ _) | (with_reducible refine Kd.C_drewN ?_ _) | (with_reducible refine Kd.C_drew ?_))); (case side2 => exact HC0_1.out); (case side3 => repeat (first | exact (Kd.C_below HR0_2.out HB.out) | (with_reducible refine Kd.C_alloc ?_ _) | (with_reducible refine Kd.C_drewN ?_ _) | (with_reducible refine Kd.C_drew ?_))); (case side4 => exact HC0_2.out); rintro e w70 ⟨v155, v158, rfl, ho0, ho1, hb⟩; refine ⟨_, rfl, ?_⟩; have n0_ := Aside0.mk (Kd.R_lower ho0 (below_size (by repeat (first | (with_reducible first | exact HB.out | apply below_alloc | apply pw_below_drewN | apply below_drew1 | refine below_set ?_ GE148.out) | exact HB.out)))); have n1_ := Aside0.mk (Kd.R_lower ho1 (below_size (by repeat (first | (with_reducible first | exact HB.out | apply below_alloc | apply pw_below_drewN | apply below_drew1 | refine below_set ?_ GE148.out) | exact HB.out)))); have n2_ := Aside0.mk (blk_below (g := gb148) (o := .cells #[.int .i64 a0_0, .slice A0_1 l0_1.length c0_1, .slice A0_2 l0_2.length c0_2] 24 (0, 0)) (by (with_reducible repeat (first | refine blk_drewN ?_ _ | refine blk_drew ?_ | refine blk_alloc ?_ _)); exact BK148.out) hb); have n3_ := Aside0.mk (below_step (by repeat (first | (with_reducible first | exact HB.out | apply below_alloc | apply pw_below_drewN | apply below_drew1 | refine below_set ?_ GE148.out) | exact HB.out)) hb); clear BK148; clear HB; have HO156 := n0_; have HO159 := n1_; have BK148 := n2_; have HB := n3_; clear n0_ n1_ n2_ n3_; (try clear hb); (try clear hb2); (try clear hk); (try clear hi); (try clear ho0); (try clear ho1); obtain ⟨Ao71, co71, eo71⟩ := Kd.R_slice HO156.out; subst eo71; obtain ⟨Ao72, co72, eo72⟩ := Kd.R_slice HO159.out; subst eo72)
                           go_roundg k5
                           case measure => have := HJ5.out; have := HJ13.out; have := HK3.out; have := HK4.out; have := HK5.out; omega
                           case rel => exact ⟨(wrap64 (x12_5 + 1)), (by first | rfl | (simp; done) | (simp [*]; done)), H', ⟨by have := HJ5.out; have := HJ13.out; have := HK3.out; have := HK4.out; have := HK5.out; omega⟩, ⟨by (with_reducible repeat (first | refine blk_drewN ?_ _ | refine blk_drew ?_ | refine blk_alloc ?_ _)); exact BK148.out⟩, ⟨by repeat (first | (with_reducible first | exact HB.out | apply below_alloc | apply pw_below_drewN | apply below_drew1 | refine below_set ?_ GE148.out) | exact HB.out)⟩⟩
                     · rw [if_neg c52] at H
                       have c52b0 : decide (x12_5 < (l0_1.length : Int)) = false := decide_eq_false c52
                       clear c52
                       obtain rfl := Option.some.inj H
                       have hcz73_0 : wr.cell? ⟨gb148, 0, none⟩ = some (.int .i64 a0_0) := (blk_cell BK148.out 0).trans rfl
                       have hcz73_1 : wr.cell? ⟨gb148, 1, none⟩ = some (.slice A0_1 l0_1.length c0_1) := (blk_cell BK148.out 1).trans rfl
                       have hcz73_2 : wr.cell? ⟨gb148, 2, none⟩ = some (.slice A0_2 l0_2.length c0_2) := (blk_cell BK148.out 2).trans rfl
                       have hfz73_0 := blk_frozen BK148.out 0
                       have hfz73_1 := blk_frozen BK148.out 1
                       have hfz73_2 := blk_frozen BK148.out 2
                       go_wp2
                       go_ret
                       exact ⟨by first | rfl | (simp [errW_none, errW_some] <;> rfl) | (simp [*, errW_none, errW_some] <;> rfl), by repeat (first | (with_reducible first | exact HB.out | apply below_alloc | apply pw_below_drewN | apply below_drew1 | refine below_set ?_ GE148.out) | exact HB.out)⟩
       · rw [if_neg c13] at H
         have c13b0 : ((l0_2.length : Int) == a1) = false := beq_eq_false_iff_ne.mpr c13
         have c13b1 : ((l0_2.length : Int) != a1) = true := bne_iff_ne.mpr c13
         obtain rfl := Option.some.inj H
         have hcz74_0 : wc.cell? ⟨gb148, 0, none⟩ = some (.int .i64 a0_0) := (blk_cell BK148.out 0).trans rfl
         have hcz74_1 : wc.cell? ⟨gb148, 1, none⟩ = some (.slice A0_1 l0_1.length c0_1) := (blk_cell BK148.out 1).trans rfl
         have hcz74_2 : wc.cell? ⟨gb148, 2, none⟩ = some (.slice A0_2 l0_2.length c0_2) := (blk_cell BK148.out 2).trans rfl
         have hfz74_0 := blk_frozen BK148.out 0
         have hfz74_1 := blk_frozen BK148.out 1
         have hfz74_2 := blk_frozen BK148.out 2
         go_wp2
         go_ret
         exact ⟨by first | rfl | (simp [errW_none, errW_some] <;> rfl) | (simp [*, errW_none, errW_some] <;> rfl), by repeat (first | (with_reducible first | exact HB.out | apply below_alloc | apply pw_below_drewN | apply below_drew1 | refine below_set ?_ GE148.out) | exact HB.out)⟩
 · rw [if_neg c5] at H
   have c5b0 : (t149 == 0) = false := beq_eq_false_iff_ne.mpr c5
   have c5b1 : (t149 != 0) = true := bne_iff_ne.mpr c5
   obtain rfl := Option.some.inj H
   go_enter Try.func7, Try.ntmps7
   go_wp2_with (first | ((with_reducible refine gate_dst (N := 3) rfl ?_); (try (refine gate_guard (by rfl) ?_; dsimp only)); refine box_event ?hg (N := 3) ?hd (cs := #[.int .i64 a0_0, .slice A0_1 l0_1.length c0_1, .slice A0_2 l0_2.length c0_2]) (t := 24) ?hr ?_; (case hd => rfl); (case hg => rfl); (case hr => first | (go_simp; done) | (go_simp; rfl)); intro gb148 hg w75 hbox hb; have n0_ := Aside0.mk (below_step (by repeat (first | (with_reducible first | exact HB.out | apply below_alloc | apply pw_below_drewN | apply below_drew1) | exact HB.out)) hb); have n1_ := Aside0.mk (hbox); have n2_ := Aside0.mk ((by rw [hg]; exact (below_size (by repeat (first | (with_reducible first | exact HB.out | apply below_alloc | apply pw_below_drewN | apply below_drew1) | exact HB.out))) : w.heap.size ≤ gb148)); have n3_ := Aside0.mk ((by rw [hg]; exact (below_size (by repeat (first | (with_reducible first | exact HB.out | apply below_alloc | apply pw_below_drewN | apply below_drew1) | exact HB.out))) : w.heap.size ≤ gb148)); clear HB; have HB := n0_; have BK148 := n1_; have GW148 := n2_; have GE148 := n3_; clear n0_ n1_ n2_ n3_; clear hb hbox hg) | ((with_reducible refine gate_callee (f := 34) rfl ?_); refine goesL_ (some 17) rfl rfl Try.func34 (by kernel_rfl) rfl #[.slice A2 l2.length c2] rfl (by (try simp only [List.map_toArray, List.map_cons, List.map_nil]); first | done | rfl | (simp only [List.length_drop, List.length_take]; rfl)) ?_; (with_reducible refine (lib_Check.calls k _ _ l2 t149 _ ?side1 ?side2 A4.out).mono ?_); (case side1 => repeat (first | exact (Kd.C_below HR2.out HB.out) | (with_reducible refine Kd.C_alloc ?_ _) | (with_reducible refine Kd.C_drewN ?_ _) | (with_reducible refine Kd.C_drew ?_))); (case side2 => exact HC2.out); rintro e w76 ⟨rfl, hb⟩; refine ⟨_, rfl, ?_⟩; have n0_ := Aside0.mk (blk_below (g := gb148) (o := .cells #[.int .i64 a0_0, .slice A0_1 l0_1.length c0_1, .slice A0_2 l0_2.length c0_2] 24 (0, 0)) (by (with_reducible repeat (first | refine blk_drewN ?_ _ | refine blk_drew ?_ | refine blk_alloc ?_ _)); exact BK148.out) hb); have n1_ := Aside0.mk (below_step (by repeat (first | (with_reducible first | exact HB.out | apply below_alloc | apply pw_below_drewN | apply below_drew1 | refine below_set ?_ GE148.out) | exact HB.out)) hb); clear BK148; clear HB; have BK148 := n0_; have HB := n1_; clear n0_ n1_; (try clear hb); (try clear hb2); (try clear hk); (try clear hi)))
   go_ret
   exact ⟨by first | rfl | (simp [errW_none, errW_some] <;> rfl) | (simp [*, errW_none, errW_some] <;> rfl), by repeat (first | (with_reducible first | exact HB.out | apply below_alloc | apply pw_below_drewN | apply below_drew1 | refine below_set ?_ GE148.out) | exact HB.out)⟩

end Go.Proofs.Ytagpbgabcenodaa.PB
