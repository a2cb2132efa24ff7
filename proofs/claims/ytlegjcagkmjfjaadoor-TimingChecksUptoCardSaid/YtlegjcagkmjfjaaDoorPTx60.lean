-- PRINTED by print.py (a twelfth state) out of the translation. Not trusted: Lean checks it.
import Derived.Test.YtlegjcagkmjfjaaDoorCmp
import Derived.Test.YtlegjcagkmjfjaaDoorPTx0
import Derived.Test.YtlegjcagkmjfjaaDoorPTx12
import Derived.Test.YtlegjcagkmjfjaaDoorPTx51
import Derived.Test.YtlegjcagkmjfjaaDoorPTx57
import Derived.Test.YtlegjcagkmjfjaaDoorPTx7
import Derived.Test.YtlegjcagkmjfjaaDoorPTx50
namespace Go.Proofs.YtlegjcagkmjfjaaDoor.PT
open Go.RowKit Go.Proofs.YtlegjcagkmjfjaaDoorW.PrintWords Go.Proofs.YtlegjcagkmjfjaaDoorW.PrintLast Go.Proofs.YtlegjcagkmjfjaaDoorW.PrintMore
attribute [local go_sem] max2_int min2_int max_two min_two max_three min_three max_four min_four   -- for this text's walks alone
set_option linter.unusedVariables false
set_option linter.unusedSimpArgs false

/-! ### maskref4_JobFault: function 6 -/
def maskref4_JobFault.l0 : Nat → List (S58) → Int → Int → List ByteArray → List ByteArray → List (S58) → List (S72) → List Int → List (S94) → List (List (S53)) → List (List (S53)) → List (S53) → List (S53) → List (S53) → Int → List (S78) → List (S81) → List (S83) → Option (Int)
 | 0, _, _, _, _, _, _, _, _, _, _, _, _, _, _, _, _, _, _ => none
 | k + 1, x17, x18, x19, x381000, x381001, x381002, x381003, x381004, x381005, x381006, x381007, x381008, x381009, x381010, x381011, x381012, x381013, x381014 => if x19 < x18 then (if 0 ≤ x19 then (if x19 < (x17.length : Int) then (if ((rd_T58 x17 x19).f1) < 0 then (some 8) else (maskref4_JobFault.l0 k x17 x18 (wrap64 (x19 + 1)) x381000 x381001 x381002 x381003 x381004 x381005 x381006 x381007 x381008 x381009 x381010 x381011 x381012 x381013 x381014)) else (none)) else (none)) else ((maskref4_DelaysFault.f k x381000 x381001 x381002 x381003 x381004 x381006 x381007 x381008 x381009 x381010).bind fun t384 => (if t384 = 0 then ((maskref4_AskedFault.f k x381011 x381012 x381013 x381014 x381000 x381001 x381002 x381003 x381004).bind fun t385 => (some t385)) else (some t384)))
def maskref4_JobFault.f (k : Nat) (l0_0 : List ByteArray) (l0_1 : List ByteArray) (l0_2 : List (S58)) (l0_3 : List (S72)) (l0_4 : List Int) (l0_5 : List (S94)) (l0_6 : List (List (S53))) (l0_7 : List (List (S53))) (l0_8 : List (S53)) (l0_9 : List (S53)) (l0_10 : List (S53)) (a0_11 : Int) (l0_12 : List (S78)) (l0_13 : List (S81)) (l0_14 : List (S83)) : Option (Int) := (netlist_Check.f k l0_0 l0_1 l0_2 l0_3 l0_4 l0_5).bind fun t381 => (if t381 = 0 then (maskref4_JobFault.l0 k l0_2 (l0_2.length : Int) 0 l0_0 l0_1 l0_2 l0_3 l0_4 l0_5 l0_6 l0_7 l0_8 l0_9 l0_10 a0_11 l0_12 l0_13 l0_14) else (some t381))
theorem maskref4_JobFault.mono_l : ∀ k, (∀ y0 y1 y2 y3 y4 y5 y6 y7 y8 y9 y10 y11 y12 y13 y14 y15 y16 y17, LeO (maskref4_JobFault.l0 k y0 y1 y2 y3 y4 y5 y6 y7 y8 y9 y10 y11 y12 y13 y14 y15 y16 y17) (maskref4_JobFault.l0 (k + 1) y0 y1 y2 y3 y4 y5 y6 y7 y8 y9 y10 y11 y12 y13 y14 y15 y16 y17))
 | 0 => fun _ _ _ _ _ _ _ _ _ _ _ _ _ _ _ _ _ _ r h => by simp [maskref4_JobFault.l0] at h
 | k + 1 => by
  have ih0 := maskref4_JobFault.mono_l k
  · intro y0 y1 y2 y3 y4 y5 y6 y7 y8 y9 y10 y11 y12 y13 y14 y15 y16 y17
    unfold maskref4_JobFault.l0
    repeat' first
    | (with_reducible exact ih0 _ _ _ _ _ _ _ _ _ _ _ _ _ _ _ _ _ _)
    | (with_reducible exact maskref4_AskedFault.mono _ _ _ _ _ _ _ _ _ _)
    | (with_reducible exact maskref4_DelaysFault.mono _ _ _ _ _ _ _ _ _ _ _)
    | (with_reducible exact netlist_Check.mono _ _ _ _ _ _ _)
    | (with_reducible exact LeO.refl _)
    | (with_reducible exact LeO.none _)
    | (with_reducible refine LeO.ite ?_ ?_)
    | (with_reducible refine LeO.bind ?_ (fun _ => ?_))
    | exact ih0 _ _ _ _ _ _ _ _ _ _ _ _ _ _ _ _ _ _
    | exact maskref4_AskedFault.mono _ _ _ _ _ _ _ _ _ _
    | exact maskref4_DelaysFault.mono _ _ _ _ _ _ _ _ _ _ _
    | exact netlist_Check.mono _ _ _ _ _ _ _
    | exact LeO.none _
    | refine LeO.ite ?_ ?_
    | refine LeO.bind ?_ (fun _ => ?_)
theorem maskref4_JobFault.mono : ∀ a0 a1 a2 a3 a4 a5 a6 a7 a8 a9 a10 a11 a12 a13 a14 k, LeO (maskref4_JobFault.f k a0 a1 a2 a3 a4 a5 a6 a7 a8 a9 a10 a11 a12 a13 a14) (maskref4_JobFault.f (k + 1) a0 a1 a2 a3 a4 a5 a6 a7 a8 a9 a10 a11 a12 a13 a14) := by
 intro a0 a1 a2 a3 a4 a5 a6 a7 a8 a9 a10 a11 a12 a13 a14 k
 have ih0 := maskref4_JobFault.mono_l k
 unfold maskref4_JobFault.f
 repeat' first
  | (with_reducible exact ih0 _ _ _ _ _ _ _ _ _ _ _ _ _ _ _ _ _ _)
  | (with_reducible exact maskref4_AskedFault.mono _ _ _ _ _ _ _ _ _ _)
  | (with_reducible exact maskref4_DelaysFault.mono _ _ _ _ _ _ _ _ _ _ _)
  | (with_reducible exact netlist_Check.mono _ _ _ _ _ _ _)
  | (with_reducible exact LeO.refl _)
  | (with_reducible exact LeO.none _)
  | (with_reducible refine LeO.ite ?_ ?_)
  | (with_reducible refine LeO.bind ?_ (fun _ => ?_))
  | exact ih0 _ _ _ _ _ _ _ _ _ _ _ _ _ _ _ _ _ _
  | exact maskref4_AskedFault.mono _ _ _ _ _ _ _ _ _ _
  | exact maskref4_DelaysFault.mono _ _ _ _ _ _ _ _ _ _ _
  | exact netlist_Check.mono _ _ _ _ _ _ _
  | exact LeO.none _
  | refine LeO.ite ?_ ?_
  | refine LeO.bind ?_ (fun _ => ?_)
set_option maxHeartbeats 8000000 in
set_option maxRecDepth 100000 in
theorem maskref4_JobFault.calls (k : Nat) (A0_0 : Option Addr) (c0_0 : Nat) (l0_0 : List ByteArray) (A0_1 : Option Addr) (c0_1 : Nat) (l0_1 : List ByteArray) (A0_2 : Option Addr) (c0_2 : Nat) (l0_2 : List (S58)) (A0_3 : Option Addr) (c0_3 : Nat) (l0_3 : List (S72)) (A0_4 : Option Addr) (c0_4 : Nat) (l0_4 : List Int) (A0_5 : Option Addr) (c0_5 : Nat) (l0_5 : List (S94)) (A0_6 : Option Addr) (c0_6 : Nat) (l0_6 : List (List (S53))) (A0_7 : Option Addr) (c0_7 : Nat) (l0_7 : List (List (S53))) (A0_8 : Option Addr) (c0_8 : Nat) (l0_8 : List (S53)) (A0_9 : Option Addr) (c0_9 : Nat) (l0_9 : List (S53)) (A0_10 : Option Addr) (c0_10 : Nat) (l0_10 : List (S53)) (a0_11 : Int) (A0_12 : Option Addr) (c0_12 : Nat) (l0_12 : List (S78)) (A0_13 : Option Addr) (c0_13 : Nat) (l0_13 : List (S81)) (A0_14 : Option Addr) (c0_14 : Nat) (l0_14 : List (S83)) (r : Int) (w : World) (hr0_0 : Kd.C Kd.string w A0_0 l0_0.length l0_0) (hc0_0 : l0_0.length ≤ c0_0) (hr0_1 : Kd.C Kd.string w A0_1 l0_1.length l0_1) (hc0_1 : l0_1.length ≤ c0_1) (hr0_2 : Kd.C k58 w A0_2 l0_2.length l0_2) (hc0_2 : l0_2.length ≤ c0_2) (hr0_3 : Kd.C k72 w A0_3 l0_3.length l0_3) (hc0_3 : l0_3.length ≤ c0_3) (hr0_4 : Kd.C (Kd.int .i64) w A0_4 l0_4.length l0_4) (hc0_4 : l0_4.length ≤ c0_4) (hr0_5 : Kd.C k94 w A0_5 l0_5.length l0_5) (hc0_5 : l0_5.length ≤ c0_5) (hr0_6 : Kd.C (Kd.slice 53 k53) w A0_6 l0_6.length l0_6) (hc0_6 : l0_6.length ≤ c0_6) (hr0_7 : Kd.C (Kd.slice 53 k53) w A0_7 l0_7.length l0_7) (hc0_7 : l0_7.length ≤ c0_7) (hr0_8 : Kd.C k53 w A0_8 l0_8.length l0_8) (hc0_8 : l0_8.length ≤ c0_8) (hr0_9 : Kd.C k53 w A0_9 l0_9.length l0_9) (hc0_9 : l0_9.length ≤ c0_9) (hr0_10 : Kd.C k53 w A0_10 l0_10.length l0_10) (hc0_10 : l0_10.length ≤ c0_10) (hr0_12 : Kd.C k78 w A0_12 l0_12.length l0_12) (hc0_12 : l0_12.length ≤ c0_12) (hr0_13 : Kd.C k81 w A0_13 l0_13.length l0_13) (hc0_13 : l0_13.length ≤ c0_13) (hr0_14 : Kd.C k83 w A0_14 l0_14.length l0_14) (hc0_14 : l0_14.length ≤ c0_14) (h : maskref4_JobFault.f k l0_0 l0_1 l0_2 l0_3 l0_4 l0_5 l0_6 l0_7 l0_8 l0_9 l0_10 a0_11 l0_12 l0_13 l0_14 = some r) :
 Calls Tryd.prog 6 #[.agg #[.slice A0_0 l0_0.length c0_0, .slice A0_1 l0_1.length c0_1, .slice A0_2 l0_2.length c0_2, .slice A0_3 l0_3.length c0_3, .slice A0_4 l0_4.length c0_4, .slice A0_5 l0_5.length c0_5, .slice A0_6 l0_6.length c0_6, .slice A0_7 l0_7.length c0_7, .slice A0_8 l0_8.length c0_8, .slice A0_9 l0_9.length c0_9, .slice A0_10 l0_10.length c0_10, .int .i64 a0_11, .slice A0_12 l0_12.length c0_12, .slice A0_13 l0_13.length c0_13, .slice A0_14 l0_14.length c0_14]] w fun e w' => e = .returned (.int .i64 r) ∧ Below w.heap.size w w' := by
 have HR0_0 := Aside0.mk hr0_0
 have HC0_0 := Aside0.mk hc0_0
 clear hr0_0 hc0_0
 have HR0_1 := Aside0.mk hr0_1
 have HC0_1 := Aside0.mk hc0_1
 clear hr0_1 hc0_1
 have HR0_2 := Aside0.mk hr0_2
 have HC0_2 := Aside0.mk hc0_2
 clear hr0_2 hc0_2
 have HR0_3 := Aside0.mk hr0_3
 have HC0_3 := Aside0.mk hc0_3
 clear hr0_3 hc0_3
 have HR0_4 := Aside0.mk hr0_4
 have HC0_4 := Aside0.mk hc0_4
 clear hr0_4 hc0_4
 have HR0_5 := Aside0.mk hr0_5
 have HC0_5 := Aside0.mk hc0_5
 clear hr0_5 hc0_5
 have HR0_6 := Aside0.mk hr0_6
 have HC0_6 := Aside0.mk hc0_6
 clear hr0_6 hc0_6
 have HR0_7 := Aside0.mk hr0_7
 have HC0_7 := Aside0.mk hc0_7
 clear hr0_7 hc0_7
 have HR0_8 := Aside0.mk hr0_8
 have HC0_8 := Aside0.mk hc0_8
 clear hr0_8 hc0_8
 have HR0_9 := Aside0.mk hr0_9
 have HC0_9 := Aside0.mk hc0_9
 clear hr0_9 hc0_9
 have HR0_10 := Aside0.mk hr0_10
 have HC0_10 := Aside0.mk hc0_10
 clear hr0_10 hc0_10
 have HR0_12 := Aside0.mk hr0_12
 have HC0_12 := Aside0.mk hc0_12
 clear hr0_12 hc0_12
 have HR0_13 := Aside0.mk hr0_13
 have HC0_13 := Aside0.mk hc0_13
 clear hr0_13 hc0_13
 have HR0_14 := Aside0.mk hr0_14
 have HC0_14 := Aside0.mk hc0_14
 clear hr0_14 hc0_14
 have HB := Aside0.mk (Below.refl w.heap.size w)
 have H : ((netlist_Check.f k l0_0 l0_1 l0_2 l0_3 l0_4 l0_5).bind fun t381 => (if t381 = 0 then (maskref4_JobFault.l0 k l0_2 (l0_2.length : Int) 0 l0_0 l0_1 l0_2 l0_3 l0_4 l0_5 l0_6 l0_7 l0_8 l0_9 l0_10 a0_11 l0_12 l0_13 l0_14) else (some t381))) = some r := h
 clear h
 replace H := Option.bind_eq_some_iff.mp H
 obtain ⟨t381, A20, H⟩ := H
 replace H : (if t381 = 0 then (maskref4_JobFault.l0 k l0_2 (l0_2.length : Int) 0 l0_0 l0_1 l0_2 l0_3 l0_4 l0_5 l0_6 l0_7 l0_8 l0_9 l0_10 a0_11 l0_12 l0_13 l0_14) else (some t381)) = some r := H
 have A2 := Aside0.mk A20
 clear A20
 by_cases c3 : t381 = 0
 rotate_left
 · rw [if_neg c3] at H
   have c3b1 : (t381 != 0) = true := bne_iff_ne.mpr c3
   obtain rfl := Option.some.inj H
   go_enter Tryd.func6, Tryd.ntmps6
   go_wp2_with (first | ((with_reducible refine gate_dst (N := 1) rfl ?_); refine box_event ?hg (N := 1) ?hd (cs := #[.slice A0_0 l0_0.length c0_0, .slice A0_1 l0_1.length c0_1, .slice A0_2 l0_2.length c0_2, .slice A0_3 l0_3.length c0_3, .slice A0_4 l0_4.length c0_4, .slice A0_5 l0_5.length c0_5, .slice A0_6 l0_6.length c0_6, .slice A0_7 l0_7.length c0_7, .slice A0_8 l0_8.length c0_8, .slice A0_9 l0_9.length c0_9, .slice A0_10 l0_10.length c0_10, .int .i64 a0_11, .slice A0_12 l0_12.length c0_12, .slice A0_13 l0_13.length c0_13, .slice A0_14 l0_14.length c0_14]) (t := 39) ?hr ?_; (case hd => rfl); (case hg => rfl); (case hr => first | (go_simp; done) | (go_simp; rfl)); intro gb380 hg w27 hbox hb; have n0_ := Aside0.mk (below_step bl hb); have n1_ := Aside0.mk (hbox); have n2_ := Aside0.mk (ge (w := w) hg); have n3_ := Aside0.mk (ge (w := w) hg); clear HB; have HB := n0_; have BK380 := n1_; clear n0_ n1_ n2_ n3_; clear hb hbox hg; obtain ⟨hcz28_0, hcz28_1, hcz28_2, hcz28_3, hcz28_4, hcz28_5, -, -, -, -, -, -, -, -, -, -, -, -, -, -, -, -, -, -, -, -, -, -, -, hfz28_14⟩ := bz15 BK380.out) | ((with_reducible refine gate_callee (f := 12) rfl ?_); refine goesL_ (some 11) rfl rfl Tryd.func12 (by kernel_rfl) rfl #[.agg #[.slice A0_0 l0_0.length c0_0, .slice A0_1 l0_1.length c0_1, .slice A0_2 l0_2.length c0_2, .slice A0_3 l0_3.length c0_3, .slice A0_4 l0_4.length c0_4], .slice A0_5 l0_5.length c0_5] rfl (by (try simp only [List.map_toArray, List.map_cons, List.map_nil]); first | done | rfl | (simp only [List.length_drop, List.length_take]; rfl)) ?_; (with_reducible refine (netlist_Check.calls k _ _ l0_0 _ _ l0_1 _ _ l0_2 _ _ l0_3 _ _ l0_4 _ _ l0_5 t381 _ ?side1 ?side2 ?side3 ?side4 ?side5 ?side6 ?side7 ?side8 ?side9 ?side10 ?side11 ?side12 A2.out).mono ?_); (case side1 => exact kc (Kd.C_below HR0_0.out HB.out)); (case side2 => exact HC0_0.out); (case side3 => exact kc (Kd.C_below HR0_1.out HB.out)); (case side4 => exact HC0_1.out); (case side5 => exact kc (Kd.C_below HR0_2.out HB.out)); (case side6 => exact HC0_2.out); (case side7 => exact kc (Kd.C_below HR0_3.out HB.out)); (case side8 => exact HC0_3.out); (case side9 => exact kc (Kd.C_below HR0_4.out HB.out)); (case side10 => exact HC0_4.out); (case side11 => exact kc (Kd.C_below HR0_5.out HB.out)); (case side12 => exact HC0_5.out); rintro e w29 ⟨rfl, hb⟩; refine ⟨_, rfl, ?_⟩; have n0_ := Aside0.mk (bb BK380.out hb); have n1_ := Aside0.mk (below_step bl hb); clear BK380; clear HB; have HB := n1_; clear n0_ n1_; (try clear hb)))
   go_ret
   exact ⟨by first | rfl | (simp [errW_none, errW_some] <;> rfl) | (simp [*, errW_none, errW_some] <;> rfl), bl⟩
 rw [if_pos c3] at H
 have c3b0 : (t381 == 0) = true := beq_iff_eq.mpr c3
 have c3b1 : (t381 != 0) = false := bne_eq_false_iff_eq.mpr c3
 clear c3
 have H' := Aside0.mk H
 clear H
 go_enter Tryd.func6, Tryd.ntmps6
 go_wp2_with (first | ((with_reducible refine gate_dst (N := 1) rfl ?_); refine box_event ?hg (N := 1) ?hd (cs := #[.slice A0_0 l0_0.length c0_0, .slice A0_1 l0_1.length c0_1, .slice A0_2 l0_2.length c0_2, .slice A0_3 l0_3.length c0_3, .slice A0_4 l0_4.length c0_4, .slice A0_5 l0_5.length c0_5, .slice A0_6 l0_6.length c0_6, .slice A0_7 l0_7.length c0_7, .slice A0_8 l0_8.length c0_8, .slice A0_9 l0_9.length c0_9, .slice A0_10 l0_10.length c0_10, .int .i64 a0_11, .slice A0_12 l0_12.length c0_12, .slice A0_13 l0_13.length c0_13, .slice A0_14 l0_14.length c0_14]) (t := 39) ?hr ?_; (case hd => rfl); (case hg => rfl); (case hr => first | (go_simp; done) | (go_simp; rfl)); intro gb380 hg w4 hbox hb; have n0_ := Aside0.mk (below_step bl hb); have n1_ := Aside0.mk (hbox); have n2_ := Aside0.mk (ge (w := w) hg); have n3_ := Aside0.mk (ge (w := w) hg); clear HB; have HB := n0_; have BK380 := n1_; have GE380 := n3_; clear n0_ n1_ n2_ n3_; clear hb hbox hg; obtain ⟨hcz5_0, hcz5_1, hcz5_2, hcz5_3, hcz5_4, hcz5_5, hcz5_6, hcz5_7, hcz5_8, hcz5_9, hcz5_10, hcz5_11, hcz5_12, hcz5_13, hcz5_14, hfz5_0, hfz5_1, hfz5_2, hfz5_3, hfz5_4, hfz5_5, hfz5_6, hfz5_7, hfz5_8, hfz5_9, hfz5_10, hfz5_11, hfz5_12, hfz5_13, hfz5_14⟩ := bz15 BK380.out) | ((with_reducible refine gate_callee (f := 12) rfl ?_); refine goesL_ (some 11) rfl rfl Tryd.func12 (by kernel_rfl) rfl #[.agg #[.slice A0_0 l0_0.length c0_0, .slice A0_1 l0_1.length c0_1, .slice A0_2 l0_2.length c0_2, .slice A0_3 l0_3.length c0_3, .slice A0_4 l0_4.length c0_4], .slice A0_5 l0_5.length c0_5] rfl (by (try simp only [List.map_toArray, List.map_cons, List.map_nil]); first | done | rfl | (simp only [List.length_drop, List.length_take]; rfl)) ?_; (with_reducible refine (netlist_Check.calls k _ _ l0_0 _ _ l0_1 _ _ l0_2 _ _ l0_3 _ _ l0_4 _ _ l0_5 t381 _ ?side1 ?side2 ?side3 ?side4 ?side5 ?side6 ?side7 ?side8 ?side9 ?side10 ?side11 ?side12 A2.out).mono ?_); (case side1 => exact kc (Kd.C_below HR0_0.out HB.out)); (case side2 => exact HC0_0.out); (case side3 => exact kc (Kd.C_below HR0_1.out HB.out)); (case side4 => exact HC0_1.out); (case side5 => exact kc (Kd.C_below HR0_2.out HB.out)); (case side6 => exact HC0_2.out); (case side7 => exact kc (Kd.C_below HR0_3.out HB.out)); (case side8 => exact HC0_3.out); (case side9 => exact kc (Kd.C_below HR0_4.out HB.out)); (case side10 => exact HC0_4.out); (case side11 => exact kc (Kd.C_below HR0_5.out HB.out)); (case side12 => exact HC0_5.out); rintro e w6 ⟨rfl, hb⟩; refine ⟨_, rfl, ?_⟩; replace BK380 := Aside0.mk (bb BK380.out hb); replace HB := Aside0.mk (below_step bl hb); (try clear hb); obtain ⟨hcz7_0, hcz7_1, hcz7_2, hcz7_3, hcz7_4, hcz7_5, hcz7_6, hcz7_7, hcz7_8, hcz7_9, hcz7_10, hcz7_11, hcz7_12, hcz7_13, hcz7_14, hfz7_0, hfz7_1, hfz7_2, hfz7_3, hfz7_4, hfz7_5, hfz7_6, hfz7_7, hfz7_8, hfz7_9, hfz7_10, hfz7_11, hfz7_12, hfz7_13, hfz7_14⟩ := bz15 BK380.out))
 go_loopg [19] k (fun kq v19 w' => ∃ (x19_1 : Int), v19 = .int .i64 x19_1 ∧ Aside0 (maskref4_JobFault.l0 kq l0_2 (l0_2.length : Int) x19_1 l0_0 l0_1 l0_2 l0_3 l0_4 l0_5 l0_6 l0_7 l0_8 l0_9 l0_10 a0_11 l0_12 l0_13 l0_14 = some r) ∧ Aside0 (kq ≤ k) ∧ Aside0 (w'.heap[gb380]? = some (.cells #[(.slice A0_0 l0_0.length c0_0), (.slice A0_1 l0_1.length c0_1), (.slice A0_2 l0_2.length c0_2), (.slice A0_3 l0_3.length c0_3), (.slice A0_4 l0_4.length c0_4), (.slice A0_5 l0_5.length c0_5), (.slice A0_6 l0_6.length c0_6), (.slice A0_7 l0_7.length c0_7), (.slice A0_8 l0_8.length c0_8), (.slice A0_9 l0_9.length c0_9), (.slice A0_10 l0_10.length c0_10), .int .i64 a0_11, (.slice A0_12 l0_12.length c0_12), (.slice A0_13 l0_13.length c0_13), (.slice A0_14 l0_14.length c0_14)] 39 (0, 0))) ∧ Aside0 (Below w.heap.size w w'))
 case atStart => exact ⟨(0), (by first | rfl | (simp; done) | (simp [*]; done)), H', ⟨Nat.le_refl _⟩, ⟨bk BK380.out⟩, ⟨bl⟩⟩
 clear H'
 clear c3b0 c3b1 hcz5_0 hcz5_1 hcz5_10 hcz5_11 hcz5_12 hcz5_13 hcz5_14 hcz5_2 hcz5_3 hcz5_4 hcz5_5 hcz5_6 hcz5_7 hcz5_8 hcz5_9 hcz7_0 hcz7_1 hcz7_10 hcz7_11 hcz7_12 hcz7_13 hcz7_14 hcz7_2 hcz7_3 hcz7_4 hcz7_5 hcz7_6 hcz7_7 hcz7_8 hcz7_9 hfz5_0 hfz5_1 hfz5_10 hfz5_11 hfz5_12 hfz5_13 hfz5_14 hfz5_2 hfz5_3 hfz5_4 hfz5_5 hfz5_6 hfz5_7 hfz5_8 hfz5_9 hfz7_0 hfz7_1 hfz7_10 hfz7_11 hfz7_12 hfz7_13 hfz7_14 hfz7_2 hfz7_3 hfz7_4 hfz7_5 hfz7_6 hfz7_7 hfz7_8 hfz7_9
 obtain ⟨x19_1, rfl, HA, HK1, BK380, HB⟩ := hrel
 cases gk with
 | zero => exact absurd HA.out (by simp [maskref4_JobFault.l0])
 | succ k1 =>
  have H := HA.out
  clear HA
  simp only [maskref4_JobFault.l0] at H
  by_cases c8 : x19_1 < (l0_2.length : Int)
  rotate_left
  · rw [if_neg c8] at H
    have c8b0 : decide (x19_1 < (l0_2.length : Int)) = false := decide_eq_false c8
    clear c8
    replace H := Option.bind_eq_some_iff.mp H
    obtain ⟨t384, A180, H⟩ := H
    replace H : (if t384 = 0 then ((maskref4_AskedFault.f k1 a0_11 l0_12 l0_13 l0_14 l0_0 l0_1 l0_2 l0_3 l0_4).bind fun t385 => (some t385)) else (some t384)) = some r := H
    have A18 := Aside0.mk A180
    clear A180
    by_cases c19 : t384 = 0
    rotate_left
    · rw [if_neg c19] at H
      have c19b1 : (t384 != 0) = true := bne_iff_ne.mpr c19
      obtain rfl := Option.some.inj H
      obtain ⟨hcz25_0, hcz25_1, hcz25_2, hcz25_3, hcz25_4, -, hcz25_6, hcz25_7, hcz25_8, hcz25_9, hcz25_10, -, -, -, -, -, -, -, -, -, -, -⟩ := bz11 BK380.out
      go_wp2_with ((with_reducible refine gate_callee (f := 15) rfl ?_); refine goesL_ (some 31) rfl rfl Tryd.func15 (by kernel_rfl) rfl #[.agg #[.slice A0_0 l0_0.length c0_0, .slice A0_1 l0_1.length c0_1, .slice A0_2 l0_2.length c0_2, .slice A0_3 l0_3.length c0_3, .slice A0_4 l0_4.length c0_4], .agg #[.slice A0_6 l0_6.length c0_6, .slice A0_7 l0_7.length c0_7, .slice A0_8 l0_8.length c0_8, .slice A0_9 l0_9.length c0_9, .slice A0_10 l0_10.length c0_10]] rfl (by (try simp only [List.map_toArray, List.map_cons, List.map_nil]); first | done | rfl | (simp only [List.length_drop, List.length_take]; rfl)) ?_; (with_reducible refine (maskref4_DelaysFault.calls k1 _ _ l0_0 _ _ l0_1 _ _ l0_2 _ _ l0_3 _ _ l0_4 _ _ l0_6 _ _ l0_7 (fun k_ => k_ < w.heap.size) _ _ l0_8 (fun k_ => k_ < w.heap.size) _ _ l0_9 (fun k_ => k_ < w.heap.size) _ _ l0_10 t384 _ ?side1 ?side2 ?side3 ?side4 ?side5 ?side6 ?side7 ?side8 ?side9 ?side10 ?side11 ?side12 ?side13 ?side14 ?side15 ?side16 ?side17 A18.out).mono ?_); (case side1 => exact kc (Kd.C_below HR0_0.out HB.out)); (case side2 => exact HC0_0.out); (case side3 => exact kc (Kd.C_below HR0_1.out HB.out)); (case side4 => exact HC0_1.out); (case side5 => exact kc (Kd.C_below HR0_2.out HB.out)); (case side6 => exact HC0_2.out); (case side7 => exact kc (Kd.C_below HR0_3.out HB.out)); (case side8 => exact HC0_3.out); (case side9 => exact kc (Kd.C_below HR0_4.out HB.out)); (case side10 => exact HC0_4.out); (case side11 => exact kc (Kd.C_below HR0_6.out HB.out)); (case side12 => exact HC0_6.out); (case side13 => exact kc (Kd.C_below HR0_7.out HB.out)); (case side14 => exact HC0_7.out); (case side15 => exact Kd.V_mk HC0_8.out (Kd.F_below (Kd.C_F k53_heap HR0_8.out) bl)); (case side16 => exact Kd.V_mk HC0_9.out (Kd.F_below (Kd.C_F k53_heap HR0_9.out) bl)); (case side17 => exact Kd.V_mk HC0_10.out (Kd.F_below (Kd.C_F k53_heap HR0_10.out) bl)); rintro e w26 ⟨rfl, hb⟩; refine ⟨_, rfl, ?_⟩; have n0_ := Aside0.mk (bb BK380.out hb); have n1_ := Aside0.mk (below_step bl hb); clear BK380; clear HB; have HB := n1_; clear n0_ n1_; (try clear hb))
      go_ret
      exact ⟨by first | rfl | (simp [errW_none, errW_some] <;> rfl) | (simp [*, errW_none, errW_some] <;> rfl), bl⟩
    rw [if_pos c19] at H
    have c19b1 : (t384 != 0) = false := bne_eq_false_iff_eq.mpr c19
    clear c19
    replace H := Option.bind_eq_some_iff.mp H
    obtain ⟨t385, A200, H⟩ := H
    replace H : (some t385) = some r := H
    have A20 := Aside0.mk A200
    clear A200
    obtain rfl := Option.some.inj H
    obtain ⟨hcz21_0, hcz21_1, hcz21_2, hcz21_3, hcz21_4, -, hcz21_6, hcz21_7, hcz21_8, hcz21_9, hcz21_10, -, -, -, -, -, -, -, -, -, -, -⟩ := bz11 BK380.out
    go_wp2_with (first | ((with_reducible refine gate_callee (f := 15) rfl ?_); refine goesL_ (some 31) rfl rfl Tryd.func15 (by kernel_rfl) rfl #[.agg #[.slice A0_0 l0_0.length c0_0, .slice A0_1 l0_1.length c0_1, .slice A0_2 l0_2.length c0_2, .slice A0_3 l0_3.length c0_3, .slice A0_4 l0_4.length c0_4], .agg #[.slice A0_6 l0_6.length c0_6, .slice A0_7 l0_7.length c0_7, .slice A0_8 l0_8.length c0_8, .slice A0_9 l0_9.length c0_9, .slice A0_10 l0_10.length c0_10]] rfl (by (try simp only [List.map_toArray, List.map_cons, List.map_nil]); first | done | rfl | (simp only [List.length_drop, List.length_take]; rfl)) ?_; (with_reducible refine (maskref4_DelaysFault.calls k1 _ _ l0_0 _ _ l0_1 _ _ l0_2 _ _ l0_3 _ _ l0_4 _ _ l0_6 _ _ l0_7 (fun k_ => k_ < w.heap.size) _ _ l0_8 (fun k_ => k_ < w.heap.size) _ _ l0_9 (fun k_ => k_ < w.heap.size) _ _ l0_10 t384 _ ?side1 ?side2 ?side3 ?side4 ?side5 ?side6 ?side7 ?side8 ?side9 ?side10 ?side11 ?side12 ?side13 ?side14 ?side15 ?side16 ?side17 A18.out).mono ?_); (case side1 => exact kc (Kd.C_below HR0_0.out HB.out)); (case side2 => exact HC0_0.out); (case side3 => exact kc (Kd.C_below HR0_1.out HB.out)); (case side4 => exact HC0_1.out); (case side5 => exact kc (Kd.C_below HR0_2.out HB.out)); (case side6 => exact HC0_2.out); (case side7 => exact kc (Kd.C_below HR0_3.out HB.out)); (case side8 => exact HC0_3.out); (case side9 => exact kc (Kd.C_below HR0_4.out HB.out)); (case side10 => exact HC0_4.out); (case side11 => exact kc (Kd.C_below HR0_6.out HB.out)); (case side12 => exact HC0_6.out); (case side13 => exact kc (Kd.C_below HR0_7.out HB.out)); (case side14 => exact HC0_7.out); (case side15 => exact Kd.V_mk HC0_8.out (Kd.F_below (Kd.C_F k53_heap HR0_8.out) bl)); (case side16 => exact Kd.V_mk HC0_9.out (Kd.F_below (Kd.C_F k53_heap HR0_9.out) bl)); (case side17 => exact Kd.V_mk HC0_10.out (Kd.F_below (Kd.C_F k53_heap HR0_10.out) bl)); rintro e w22 ⟨rfl, hb⟩; refine ⟨_, rfl, ?_⟩; replace BK380 := Aside0.mk (bb BK380.out hb); replace HB := Aside0.mk (below_step bl hb); (try clear hb); obtain ⟨hcz23_0, hcz23_1, hcz23_2, hcz23_3, hcz23_4, -, -, -, -, -, -, hcz23_11, hcz23_12, hcz23_13, hcz23_14, -, -, -, -, -, -, -, -, -, -, -, -, -, -, hfz23_14⟩ := bz15 BK380.out) | ((with_reducible refine gate_callee (f := 16) rfl ?_); refine goesL_ (some 39) rfl rfl Tryd.func16 (by kernel_rfl) rfl #[.agg #[.int .i64 a0_11, .slice A0_12 l0_12.length c0_12, .slice A0_13 l0_13.length c0_13, .slice A0_14 l0_14.length c0_14], .agg #[.slice A0_0 l0_0.length c0_0, .slice A0_1 l0_1.length c0_1, .slice A0_2 l0_2.length c0_2, .slice A0_3 l0_3.length c0_3, .slice A0_4 l0_4.length c0_4]] rfl (by (try simp only [List.map_toArray, List.map_cons, List.map_nil]); first | done | rfl | (simp only [List.length_drop, List.length_take]; rfl)) ?_; (with_reducible refine (maskref4_AskedFault.calls k1 a0_11 _ _ l0_12 _ _ l0_13 _ _ l0_14 _ _ l0_0 _ _ l0_1 _ _ l0_2 _ _ l0_3 _ _ l0_4 t385 _ ?side1 ?side2 ?side3 ?side4 ?side5 ?side6 ?side7 ?side8 ?side9 ?side10 ?side11 ?side12 ?side13 ?side14 ?side15 ?side16 A20.out).mono ?_); (case side1 => exact kc (Kd.C_below HR0_12.out HB.out)); (case side2 => exact HC0_12.out); (case side3 => exact kc (Kd.C_below HR0_13.out HB.out)); (case side4 => exact HC0_13.out); (case side5 => exact kc (Kd.C_below HR0_14.out HB.out)); (case side6 => exact HC0_14.out); (case side7 => exact kc (Kd.C_below HR0_0.out HB.out)); (case side8 => exact HC0_0.out); (case side9 => exact kc (Kd.C_below HR0_1.out HB.out)); (case side10 => exact HC0_1.out); (case side11 => exact kc (Kd.C_below HR0_2.out HB.out)); (case side12 => exact HC0_2.out); (case side13 => exact kc (Kd.C_below HR0_3.out HB.out)); (case side14 => exact HC0_3.out); (case side15 => exact kc (Kd.C_below HR0_4.out HB.out)); (case side16 => exact HC0_4.out); rintro e w24 ⟨rfl, hb⟩; refine ⟨_, rfl, ?_⟩; have n0_ := Aside0.mk (bb BK380.out hb); have n1_ := Aside0.mk (below_step bl hb); clear BK380; clear HB; have HB := n1_; clear n0_ n1_; (try clear hb)))
    go_ret
    exact ⟨by first | rfl | (simp [errW_none, errW_some] <;> rfl) | (simp [*, errW_none, errW_some] <;> rfl), bl⟩
  rw [if_pos c8] at H
  have c8b0 : decide (x19_1 < (l0_2.length : Int)) = true := decide_eq_true c8
  clear c8
  by_cases c9 : 0 ≤ x19_1
  rotate_left
  · rw [if_neg c9] at H
    exact absurd H (by simp)
  rw [if_pos c9] at H
  have c9b0 : decide (0 ≤ x19_1) = true := decide_eq_true c9
  clear c9
  by_cases c10 : x19_1 < (l0_2.length : Int)
  rotate_left
  · rw [if_neg c10] at H
    exact absurd H (by simp)
  rw [if_pos c10] at H
  have c10b0 : decide (x19_1 < (l0_2.length : Int)) = true := decide_eq_true c10
  clear c10
  by_cases c11 : ((rd_T58 l0_2 x19_1).f1) < 0
  · rw [if_pos c11] at H
    have c11b0 : decide (((rd_T58 l0_2 x19_1).f1) < 0) = true := decide_eq_true c11
    clear c11
    obtain rfl := Option.some.inj H
    have p382 : 0 ≤ (x19_1 : Int) := of_decide_eq_true (by first | (with_reducible assumption) | assumption)
    have q382 : x19_1 < (l0_2.length : Int) := of_decide_eq_true (by first | (with_reducible assumption) | assumption)
    obtain ⟨ad382, e382, hx382_0, hx382_1, hx382_2, hx382_3, hx382_4⟩ := at_T58 HR0_2.out x19_1 p382 q382
    cases e382
    replace hx382_0 := hc HB.out hx382_0
    replace hx382_1 := hc HB.out hx382_1
    replace hx382_2 := hc HB.out hx382_2
    replace hx382_3 := hc HB.out hx382_3
    replace hx382_4 := hc HB.out hx382_4
    replace p382 := eq_true p382
    replace q382 := eq_true q382
    go_wp2_with ((with_reducible refine gate_dst (N := 5) rfl ?_); refine box_event ?hg (N := 5) ?hd (cs := #[.string (⟨#[]⟩ : ByteArray), .int .i64 0, .int .i64 0, .int .i64 0, .bool false]) (t := 58) ?hr ?_; (case hd => rfl); (case hg => rfl); (case hr => first | (go_simp; done) | (go_simp; rfl)); intro gb383 hg w12 hbox hb; have n0_ := Aside0.mk (bb BK380.out hb); have n1_ := Aside0.mk (below_step bl hb); have n2_ := Aside0.mk (hbox); have n3_ := Aside0.mk (ge (w := w) hg); have n4_ := Aside0.mk (ge (w := w) hg); have n5_ := Aside0.mk (nl hg (bk BK380.out)); have n6_ := Aside0.mk (ng hg (bk BK380.out)); clear BK380; clear HB; have HB := n1_; have BK383 := n2_; have GE383 := n4_; have NB380_383 := n5_; have NB383_380 := n6_; clear n0_ n1_ n2_ n3_ n4_ n5_ n6_; clear hb hbox hg; obtain ⟨hcz14_0, hcz14_1, hcz14_2, hcz14_3, hcz14_4, hfz14_0, hfz14_1, hfz14_2, hfz14_3, hfz14_4⟩ := bz5 BK383.out)
    go_ret
    exact ⟨by first | rfl | (simp [errW_none, errW_some] <;> rfl) | (simp [*, errW_none, errW_some] <;> rfl), bl⟩
  rw [if_neg c11] at H
  have c11b0 : decide (((rd_T58 l0_2 x19_1).f1) < 0) = false := decide_eq_false c11
  clear c11
  have H' := Aside0.mk H
  clear H
  have p382 : 0 ≤ (x19_1 : Int) := of_decide_eq_true (by first | (with_reducible assumption) | assumption)
  have q382 : x19_1 < (l0_2.length : Int) := of_decide_eq_true (by first | (with_reducible assumption) | assumption)
  obtain ⟨ad382, e382, hx382_0, hx382_1, hx382_2, hx382_3, hx382_4⟩ := at_T58 HR0_2.out x19_1 p382 q382
  cases e382
  replace hx382_0 := hc HB.out hx382_0
  replace hx382_1 := hc HB.out hx382_1
  replace hx382_2 := hc HB.out hx382_2
  replace hx382_3 := hc HB.out hx382_3
  replace hx382_4 := hc HB.out hx382_4
  replace p382 := eq_true p382
  replace q382 := eq_true q382
  go_wp2_with ((with_reducible refine gate_dst (N := 5) rfl ?_); refine box_event ?hg (N := 5) ?hd (cs := #[.string (⟨#[]⟩ : ByteArray), .int .i64 0, .int .i64 0, .int .i64 0, .bool false]) (t := 58) ?hr ?_; (case hd => rfl); (case hg => rfl); (case hr => first | (go_simp; done) | (go_simp; rfl)); intro gb383 hg w15 hbox hb; have n0_ := Aside0.mk (bb BK380.out hb); have n1_ := Aside0.mk (below_step bl hb); have n2_ := Aside0.mk (hbox); have n3_ := Aside0.mk (ge (w := w) hg); have n4_ := Aside0.mk (ge (w := w) hg); have n5_ := Aside0.mk (nl hg (bk BK380.out)); have n6_ := Aside0.mk (ng hg (bk BK380.out)); clear BK380; clear HB; have BK380 := n0_; have HB := n1_; have BK383 := n2_; have GE383 := n4_; have NB380_383 := n5_; have NB383_380 := n6_; clear n0_ n1_ n2_ n3_ n4_ n5_ n6_; clear hb hbox hg; obtain ⟨hcz17_0, hcz17_1, hcz17_2, hcz17_3, hcz17_4, hfz17_0, hfz17_1, hfz17_2, hfz17_3, hfz17_4⟩ := bz5 BK383.out)
  go_roundg k1
  case measure => have := HK1.out; omega
  case rel => exact ⟨(wrap64 (x19_1 + 1)), (by first | rfl | (simp; done) | (simp [*]; done)), H', ⟨by have := HK1.out; omega⟩, ⟨bf BK380.out⟩, ⟨bl⟩⟩

end Go.Proofs.YtlegjcagkmjfjaaDoor.PT
namespace Go.Proofs.YtlegjcagkmjfjaaDoor.PT
open Go.RowKit Go.Proofs.YtlegjcagkmjfjaaDoorW.PrintWords Go.Proofs.YtlegjcagkmjfjaaDoorW.PrintLast Go.Proofs.YtlegjcagkmjfjaaDoorW.PrintMore
attribute [local go_sem] max2_int min2_int max_two min_two max_three min_three max_four min_four   -- for this text's walks alone
set_option linter.unusedVariables false
set_option linter.unusedSimpArgs false

attribute [local go_sem high] eqA49
/-! ### timing_End: function 8 -/
def timing_End.l0 : Nat → List (S49) → List (S49) → Int → Int → Option (Bool)
 | 0, _, _, _, _ => none
 | k + 1, x0, x1, x12, x13 => if x13 < x12 then (if 0 ≤ x13 then (if x13 < (x0.length : Int) then (if x13 < (x1.length : Int) then (if (!(((rd_T49 x0 x13).f0) == ((rd_T49 x1 x13).f0)) || (!(((rd_T49 x0 x13).f1) == ((rd_T49 x1 x13).f1)) || ((!(((rd_T49 x0 x13).f2.f0) == ((rd_T49 x1 x13).f2.f0)) || (!(((rd_T49 x0 x13).f2.f1) == ((rd_T49 x1 x13).f2.f1)) || (!(((rd_T49 x0 x13).f2.f2) == ((rd_T49 x1 x13).f2.f2))))) || ((!(((rd_T49 x0 x13).f3.f0) == ((rd_T49 x1 x13).f3.f0)) || (!(((rd_T49 x0 x13).f3.f1) == ((rd_T49 x1 x13).f3.f1)) || (!(((rd_T49 x0 x13).f3.f2) == ((rd_T49 x1 x13).f3.f2))))))))) = true then (some false) else (timing_End.l0 k x0 x1 x12 (wrap64 (x13 + 1)))) else (none)) else (none)) else (none)) else (some true)
def timing_End.f (k : Nat) (l0 : List (S49)) (l1 : List (S49)) : Option (Bool) := if (l0.length : Int) = (l1.length : Int) then (timing_End.l0 k l0 l1 (l0.length : Int) 0) else (some false)
theorem timing_End.mono_l : ∀ k, (∀ y0 y1 y2 y3, LeO (timing_End.l0 k y0 y1 y2 y3) (timing_End.l0 (k + 1) y0 y1 y2 y3))
 | 0 => fun _ _ _ _ r h => by simp [timing_End.l0] at h
 | k + 1 => by
  have ih0 := timing_End.mono_l k
  · intro y0 y1 y2 y3
    unfold timing_End.l0
    repeat' first
    | (with_reducible exact ih0 _ _ _ _)
    | (with_reducible exact LeO.refl _)
    | (with_reducible exact LeO.none _)
    | (with_reducible refine LeO.ite ?_ ?_)
    | (with_reducible refine LeO.bind ?_ (fun _ => ?_))
theorem timing_End.mono : ∀ a0 a1 k, LeO (timing_End.f k a0 a1) (timing_End.f (k + 1) a0 a1) := by
 intro a0 a1 k
 have ih0 := timing_End.mono_l k
 unfold timing_End.f
 repeat' first
  | (with_reducible exact ih0 _ _ _ _)
  | (with_reducible exact LeO.refl _)
  | (with_reducible exact LeO.none _)
  | (with_reducible refine LeO.ite ?_ ?_)
  | (with_reducible refine LeO.bind ?_ (fun _ => ?_))
set_option maxHeartbeats 8000000 in
set_option maxRecDepth 100000 in
theorem timing_End.calls (k : Nat) (A0 : Option Addr) (c0 : Nat) (l0 : List (S49)) (A1 : Option Addr) (c1 : Nat) (l1 : List (S49)) (r : Bool) (w : World) (hr0 : Kd.C k49 w A0 l0.length l0) (hc0 : l0.length ≤ c0) (hr1 : Kd.C k49 w A1 l1.length l1) (hc1 : l1.length ≤ c1) (h : timing_End.f k l0 l1 = some r) :
 Calls Tryd.prog 8 #[.slice A0 l0.length c0, .slice A1 l1.length c1] w fun e w' => e = .returned (.bool r) ∧ Drawn0 w w' := by
 have HR0 := Aside0.mk hr0
 clear hr0 hc0
 have HR1 := Aside0.mk hr1
 clear hr1 hc1
 have H : (if (l0.length : Int) = (l1.length : Int) then (timing_End.l0 k l0 l1 (l0.length : Int) 0) else (some false)) = some r := h
 clear h
 by_cases c3 : (l0.length : Int) = (l1.length : Int)
 rotate_left
 · rw [if_neg c3] at H
   have c3b1 : ((l0.length : Int) != (l1.length : Int)) = true := bne_iff_ne.mpr c3
   obtain rfl := Option.some.inj H
   go_enter Tryd.func8, Tryd.ntmps8
   go_wp2
   repeat (go_quiet (fail); try go_wp2)
   go_ret
   exact ⟨by first | rfl | (simp; done) | (simp [*]; done), by repeat (first | exact Drawn0.refl _ | apply Drawn0.step)⟩
 rw [if_pos c3] at H
 have c3b0 : ((l0.length : Int) == (l1.length : Int)) = true := beq_iff_eq.mpr c3
 have c3b1 : ((l0.length : Int) != (l1.length : Int)) = false := bne_eq_false_iff_eq.mpr c3
 have c3b2 : (l0.length == l1.length) = true := by first | simpa using c3 | (simp at c3 ⊢; omega)
 clear c3
 have H' := Aside0.mk H
 clear H
 go_enter Tryd.func8, Tryd.ntmps8
 go_wp2
 repeat (go_quiet (fail); try go_wp2)
 go_loopg [13] k (fun kq v13 w' => ∃ (x13_1 : Int), v13 = .int .i64 x13_1 ∧ Aside0 (timing_End.l0 kq l0 l1 (l0.length : Int) x13_1 = some r) ∧ Aside0 (kq ≤ k) ∧ Drawn0 w w')
 case atStart => exact ⟨(0), (by first | rfl | (simp; done) | (simp [*]; done)), H', ⟨Nat.le_refl _⟩, by repeat (first | exact Drawn0.refl _ | apply Drawn0.step)⟩
 clear H'
 clear c3b0 c3b1 c3b2
 obtain ⟨x13_1, rfl, HA, HK1, ⟨m1, rfl⟩⟩ := hrel
 cases gk with
 | zero => exact absurd HA.out (by simp [timing_End.l0])
 | succ k1 =>
  have H := HA.out
  clear HA
  simp only [timing_End.l0] at H
  by_cases c4 : x13_1 < (l0.length : Int)
  rotate_left
  · rw [if_neg c4] at H
    have c4b0 : decide (x13_1 < (l0.length : Int)) = false := decide_eq_false c4
    clear c4
    obtain rfl := Option.some.inj H
    go_wp2
    repeat (go_quiet (fail); try go_wp2)
    go_ret
    exact ⟨by first | rfl | (simp; done) | (simp [*]; done), by repeat (first | exact Drawn0.refl _ | apply Drawn0.step)⟩
  rw [if_pos c4] at H
  have c4b0 : decide (x13_1 < (l0.length : Int)) = true := decide_eq_true c4
  clear c4
  by_cases c5 : 0 ≤ x13_1
  rotate_left
  · rw [if_neg c5] at H
    exact absurd H (by simp)
  rw [if_pos c5] at H
  have c5b0 : decide (0 ≤ x13_1) = true := decide_eq_true c5
  clear c5
  by_cases c6 : x13_1 < (l0.length : Int)
  rotate_left
  · rw [if_neg c6] at H
    exact absurd H (by simp)
  rw [if_pos c6] at H
  have c6b0 : decide (x13_1 < (l0.length : Int)) = true := decide_eq_true c6
  clear c6
  by_cases c7 : x13_1 < (l1.length : Int)
  rotate_left
  · rw [if_neg c7] at H
    exact absurd H (by simp)
  rw [if_pos c7] at H
  have c7b0 : decide (x13_1 < (l1.length : Int)) = true := decide_eq_true c7
  clear c7
  by_cases c8 : (!(((rd_T49 l0 x13_1).f0) == ((rd_T49 l1 x13_1).f0)) || (!(((rd_T49 l0 x13_1).f1) == ((rd_T49 l1 x13_1).f1)) || ((!(((rd_T49 l0 x13_1).f2.f0) == ((rd_T49 l1 x13_1).f2.f0)) || (!(((rd_T49 l0 x13_1).f2.f1) == ((rd_T49 l1 x13_1).f2.f1)) || (!(((rd_T49 l0 x13_1).f2.f2) == ((rd_T49 l1 x13_1).f2.f2))))) || ((!(((rd_T49 l0 x13_1).f3.f0) == ((rd_T49 l1 x13_1).f3.f0)) || (!(((rd_T49 l0 x13_1).f3.f1) == ((rd_T49 l1 x13_1).f3.f1)) || (!(((rd_T49 l0 x13_1).f3.f2) == ((rd_T49 l1 x13_1).f3.f2))))))))) = true
  · rw [if_pos c8] at H
    have c8b0 : (!(((rd_T49 l0 x13_1).f0) == ((rd_T49 l1 x13_1).f0)) || (!(((rd_T49 l0 x13_1).f1) == ((rd_T49 l1 x13_1).f1)) || ((!(((rd_T49 l0 x13_1).f2.f0) == ((rd_T49 l1 x13_1).f2.f0)) || (!(((rd_T49 l0 x13_1).f2.f1) == ((rd_T49 l1 x13_1).f2.f1)) || (!(((rd_T49 l0 x13_1).f2.f2) == ((rd_T49 l1 x13_1).f2.f2))))) || ((!(((rd_T49 l0 x13_1).f3.f0) == ((rd_T49 l1 x13_1).f3.f0)) || (!(((rd_T49 l0 x13_1).f3.f1) == ((rd_T49 l1 x13_1).f3.f1)) || (!(((rd_T49 l0 x13_1).f3.f2) == ((rd_T49 l1 x13_1).f3.f2))))))))) = true := c8
    clear c8
    obtain rfl := Option.some.inj H
    have p386 : 0 ≤ (x13_1 : Int) := of_decide_eq_true (by first | (with_reducible assumption) | assumption)
    have q386 : x13_1 < (l0.length : Int) := of_decide_eq_true (by first | (with_reducible assumption) | assumption)
    obtain ⟨ad386, e386, hx386_0, hx386_1, hx386_2, hx386_3, hx386_4, hx386_5, hx386_6, hx386_7⟩ := at_T49 HR0.out x13_1 p386 q386
    cases e386
    replace p386 := eq_true p386
    replace q386 := eq_true q386
    have p387 : 0 ≤ (x13_1 : Int) := of_decide_eq_true (by first | (with_reducible assumption) | assumption)
    have q387 : x13_1 < (l1.length : Int) := of_decide_eq_true (by first | (with_reducible assumption) | assumption)
    obtain ⟨ad387, e387, hx387_0, hx387_1, hx387_2, hx387_3, hx387_4, hx387_5, hx387_6, hx387_7⟩ := at_T49 HR1.out x13_1 p387 q387
    cases e387
    replace p387 := eq_true p387
    replace q387 := eq_true q387
    go_wp2
    repeat (go_quiet (fail); try go_wp2)
    go_ret
    exact ⟨by first | rfl | (simp; done) | (simp [*]; done), by repeat (first | exact Drawn0.refl _ | apply Drawn0.step)⟩
  rw [if_neg c8] at H
  have c8b0 : (!(((rd_T49 l0 x13_1).f0) == ((rd_T49 l1 x13_1).f0)) || (!(((rd_T49 l0 x13_1).f1) == ((rd_T49 l1 x13_1).f1)) || ((!(((rd_T49 l0 x13_1).f2.f0) == ((rd_T49 l1 x13_1).f2.f0)) || (!(((rd_T49 l0 x13_1).f2.f1) == ((rd_T49 l1 x13_1).f2.f1)) || (!(((rd_T49 l0 x13_1).f2.f2) == ((rd_T49 l1 x13_1).f2.f2))))) || ((!(((rd_T49 l0 x13_1).f3.f0) == ((rd_T49 l1 x13_1).f3.f0)) || (!(((rd_T49 l0 x13_1).f3.f1) == ((rd_T49 l1 x13_1).f3.f1)) || (!(((rd_T49 l0 x13_1).f3.f2) == ((rd_T49 l1 x13_1).f3.f2))))))))) = false := by simpa using c8
  clear c8
  have H' := Aside0.mk H
  clear H
  have p386 : 0 ≤ (x13_1 : Int) := of_decide_eq_true (by first | (with_reducible assumption) | assumption)
  have q386 : x13_1 < (l0.length : Int) := of_decide_eq_true (by first | (with_reducible assumption) | assumption)
  obtain ⟨ad386, e386, hx386_0, hx386_1, hx386_2, hx386_3, hx386_4, hx386_5, hx386_6, hx386_7⟩ := at_T49 HR0.out x13_1 p386 q386
  cases e386
  replace p386 := eq_true p386
  replace q386 := eq_true q386
  have p387 : 0 ≤ (x13_1 : Int) := of_decide_eq_true (by first | (with_reducible assumption) | assumption)
  have q387 : x13_1 < (l1.length : Int) := of_decide_eq_true (by first | (with_reducible assumption) | assumption)
  obtain ⟨ad387, e387, hx387_0, hx387_1, hx387_2, hx387_3, hx387_4, hx387_5, hx387_6, hx387_7⟩ := at_T49 HR1.out x13_1 p387 q387
  cases e387
  replace p387 := eq_true p387
  replace q387 := eq_true q387
  go_wp2
  repeat (go_quiet (fail); try go_wp2)
  go_roundg k1
  case measure => have := HK1.out; omega
  case rel => exact ⟨(wrap64 (x13_1 + 1)), (by first | rfl | (simp; done) | (simp [*]; done)), H', ⟨by have := HK1.out; omega⟩, by repeat (first | exact Drawn0.refl _ | apply Drawn0.step)⟩

end Go.Proofs.YtlegjcagkmjfjaaDoor.PT
namespace Go.Proofs.YtlegjcagkmjfjaaDoor.PT
open Go.RowKit Go.Proofs.YtlegjcagkmjfjaaDoorW.PrintWords Go.Proofs.YtlegjcagkmjfjaaDoorW.PrintLast Go.Proofs.YtlegjcagkmjfjaaDoorW.PrintMore
attribute [local go_sem] max2_int min2_int max_two min_two max_three min_three max_four min_four   -- for this text's walks alone
set_option linter.unusedVariables false
set_option linter.unusedSimpArgs false

/-! ### maskref4_EndsOf: function 10 -/
mutual
def maskref4_EndsOf.l0 : Nat → List (S49) → Int → Int → List ByteArray → List ByteArray → List (S58) → List (S72) → List Int → Option ((List (S49)))
 | 0, _, _, _, _, _, _, _, _ => none
 | k + 1, x3, x9, x10, x389000, x389001, x389002, x389003, x389004 => if x10 < x9 then (maskref4_EndsOf.l1 k x3 x10 0 x9 x10 x389000 x389001 x389002 x389003 x389004) else (maskref4_EndsOf.l2 k x3 (x389004.length : Int) 0)
def maskref4_EndsOf.l1 : Nat → List (S49) → Int → Int → Int → Int → List ByteArray → List ByteArray → List (S58) → List (S72) → List Int → Option ((List (S49)))
 | 0, _, _, _, _, _, _, _, _, _, _ => none
 | k + 1, x3, x4, x5, x9, x10, x389000, x389001, x389002, x389003, x389004 => if 0 ≤ x4 then (if x4 < (x389002.length : Int) then ((maskref4_Takes.f ((rd_T58 x389002 x4).f0) ((rd_T58 x389002 x4).f1) ((rd_T58 x389002 x4).f2) ((rd_T58 x389002 x4).f3) ((rd_T58 x389002 x4).f4)).bind fun t390 => (if x5 < t390 then (if x3.length < 2199023255552 then (maskref4_EndsOf.l1 k (x3 ++ [(⟨x4, x5, (⟨false, 0, 0⟩ : S47), (⟨false, 0, 0⟩ : S47)⟩ : S49)]) x4 (wrap64 (x5 + 1)) x9 x10 x389000 x389001 x389002 x389003 x389004) else (none)) else (maskref4_EndsOf.l0 k x3 x9 (wrap64 (x10 + 1)) x389000 x389001 x389002 x389003 x389004))) else (none)) else (none)
def maskref4_EndsOf.l2 : Nat → List (S49) → Int → Int → Option ((List (S49)))
 | 0, _, _, _ => none
 | k + 1, x3, x32, x33 => if x33 < x32 then (if x3.length < 2199023255552 then (maskref4_EndsOf.l2 k (x3 ++ [(⟨(-1), x33, (⟨false, 0, 0⟩ : S47), (⟨false, 0, 0⟩ : S47)⟩ : S49)]) x32 (wrap64 (x33 + 1))) else (none)) else (some x3)
end
def maskref4_EndsOf.f (k : Nat) (l0_0 : List ByteArray) (l0_1 : List ByteArray) (l0_2 : List (S58)) (l0_3 : List (S72)) (l0_4 : List Int) : Option ((List (S49))) := maskref4_EndsOf.l0 k ([] : List (S49)) (l0_2.length : Int) 0 l0_0 l0_1 l0_2 l0_3 l0_4
theorem maskref4_EndsOf.mono_l : ∀ k, (∀ y0 y1 y2 y3 y4 y5 y6 y7, LeO (maskref4_EndsOf.l0 k y0 y1 y2 y3 y4 y5 y6 y7) (maskref4_EndsOf.l0 (k + 1) y0 y1 y2 y3 y4 y5 y6 y7)) ∧ (∀ y0 y1 y2 y3 y4 y5 y6 y7 y8 y9, LeO (maskref4_EndsOf.l1 k y0 y1 y2 y3 y4 y5 y6 y7 y8 y9) (maskref4_EndsOf.l1 (k + 1) y0 y1 y2 y3 y4 y5 y6 y7 y8 y9)) ∧ (∀ y0 y1 y2, LeO (maskref4_EndsOf.l2 k y0 y1 y2) (maskref4_EndsOf.l2 (k + 1) y0 y1 y2))
 | 0 => ⟨fun _ _ _ _ _ _ _ _ r h => by simp [maskref4_EndsOf.l0] at h, fun _ _ _ _ _ _ _ _ _ _ r h => by simp [maskref4_EndsOf.l1] at h, fun _ _ _ r h => by simp [maskref4_EndsOf.l2] at h⟩
 | k + 1 => by
  obtain ⟨ih0, ih1, ih2⟩ := maskref4_EndsOf.mono_l k
  refine ⟨?_, ?_, ?_⟩
  · intro y0 y1 y2 y3 y4 y5 y6 y7
    unfold maskref4_EndsOf.l0
    repeat' first
    | (with_reducible exact ih1 _ _ _ _ _ _ _ _ _ _)
    | (with_reducible exact ih2 _ _ _)
    | (with_reducible exact LeO.refl _)
    | (with_reducible exact LeO.none _)
    | (with_reducible refine LeO.ite ?_ ?_)
    | (with_reducible refine LeO.bind ?_ (fun _ => ?_))
  · intro y0 y1 y2 y3 y4 y5 y6 y7 y8 y9
    unfold maskref4_EndsOf.l1
    repeat' first
    | (with_reducible exact ih0 _ _ _ _ _ _ _ _)
    | (with_reducible exact ih1 _ _ _ _ _ _ _ _ _ _)
    | (with_reducible exact LeO.refl _)
    | (with_reducible exact LeO.none _)
    | (with_reducible refine LeO.ite ?_ ?_)
    | (with_reducible refine LeO.bind ?_ (fun _ => ?_))
  · intro y0 y1 y2
    unfold maskref4_EndsOf.l2
    repeat' first
    | (with_reducible exact ih2 _ _ _)
    | (with_reducible exact LeO.refl _)
    | (with_reducible exact LeO.none _)
    | (with_reducible refine LeO.ite ?_ ?_)
    | (with_reducible refine LeO.bind ?_ (fun _ => ?_))
theorem maskref4_EndsOf.mono : ∀ a0 a1 a2 a3 a4 k, LeO (maskref4_EndsOf.f k a0 a1 a2 a3 a4) (maskref4_EndsOf.f (k + 1) a0 a1 a2 a3 a4) := by
 intro a0 a1 a2 a3 a4 k
 obtain ⟨ih0, ih1, ih2⟩ := maskref4_EndsOf.mono_l k
 unfold maskref4_EndsOf.f
 repeat' first
  | (with_reducible exact ih0 _ _ _ _ _ _ _ _)
  | (with_reducible exact LeO.refl _)
  | (with_reducible exact LeO.none _)
  | (with_reducible refine LeO.ite ?_ ?_)
  | (with_reducible refine LeO.bind ?_ (fun _ => ?_))
set_option maxHeartbeats 8000000 in
set_option maxRecDepth 100000 in
theorem maskref4_EndsOf.calls (k : Nat) (A0_0 : Option Addr) (c0_0 : Nat) (l0_0 : List ByteArray) (A0_1 : Option Addr) (c0_1 : Nat) (l0_1 : List ByteArray) (A0_2 : Option Addr) (c0_2 : Nat) (l0_2 : List (S58)) (A0_3 : Option Addr) (c0_3 : Nat) (l0_3 : List (S72)) (A0_4 : Option Addr) (c0_4 : Nat) (l0_4 : List Int) (r : List (S49)) (w : World) (hr0_0 : Kd.C Kd.string w A0_0 l0_0.length l0_0) (hc0_0 : l0_0.length ≤ c0_0) (hr0_1 : Kd.C Kd.string w A0_1 l0_1.length l0_1) (hc0_1 : l0_1.length ≤ c0_1) (hr0_2 : Kd.C k58 w A0_2 l0_2.length l0_2) (hc0_2 : l0_2.length ≤ c0_2) (hr0_3 : Kd.C k72 w A0_3 l0_3.length l0_3) (hc0_3 : l0_3.length ≤ c0_3) (hr0_4 : Kd.C (Kd.int .i64) w A0_4 l0_4.length l0_4) (hc0_4 : l0_4.length ≤ c0_4) (h : maskref4_EndsOf.f k l0_0 l0_1 l0_2 l0_3 l0_4 = some r) :
 Calls Tryd.prog 10 #[.agg #[.slice A0_0 l0_0.length c0_0, .slice A0_1 l0_1.length c0_1, .slice A0_2 l0_2.length c0_2, .slice A0_3 l0_3.length c0_3, .slice A0_4 l0_4.length c0_4]] w fun e w' => ∃ v0_ : Value, e = .returned (v0_) ∧ Kd.R k49 49 w' w.heap.size (fun _ => True) v0_ r ∧ Below w.heap.size w w' := by
 clear hr0_0 hc0_0
 clear hr0_1 hc0_1
 have HR0_2 := Aside0.mk hr0_2
 clear hr0_2 hc0_2
 clear hr0_3 hc0_3
 clear hr0_4 hc0_4
 have HB := Aside0.mk (Below.refl w.heap.size w)
 have H : (maskref4_EndsOf.l0 k ([] : List (S49)) (l0_2.length : Int) 0 l0_0 l0_1 l0_2 l0_3 l0_4) = some r := h
 clear h
 have H' := Aside0.mk H
 clear H
 go_enter Tryd.func10, Tryd.ntmps10
 go_wp2_with ((with_reducible refine gate_dst (N := 1) rfl ?_); refine box_event ?hg (N := 1) ?hd (cs := #[.slice A0_0 l0_0.length c0_0, .slice A0_1 l0_1.length c0_1, .slice A0_2 l0_2.length c0_2, .slice A0_3 l0_3.length c0_3, .slice A0_4 l0_4.length c0_4]) (t := 27) ?hr ?_; (case hd => rfl); (case hg => rfl); (case hr => first | (go_simp; done) | (go_simp; rfl)); intro gb388 hg w2 hbox hb; have n0_ := Aside0.mk (below_step bl hb); have n1_ := Aside0.mk (hbox); have n2_ := Aside0.mk (ge (w := w) hg); have n3_ := Aside0.mk (ge (w := w) hg); clear HB; have HB := n0_; have BK388 := n1_; clear n0_ n1_ n2_ n3_; clear hb hbox hg; obtain ⟨hcz3_0, hcz3_1, hcz3_2, hcz3_3, hcz3_4, hfz3_0, hfz3_1, hfz3_2, hfz3_3, hfz3_4⟩ := bz5 BK388.out)
 go_loopg [3, 10] k (fun kq v3 v10 w' => ∃ (x3_1 : List (S49)) (x10_1 : Int), v10 = .int .i64 x10_1 ∧ Aside0 (maskref4_EndsOf.l0 kq x3_1 (l0_2.length : Int) x10_1 l0_0 l0_1 l0_2 l0_3 l0_4 = some r) ∧ Aside0 (kq ≤ k) ∧ Aside0 (Kd.R k49 49 w' w.heap.size (fun _ => True) v3 x3_1) ∧ Aside0 (w'.heap[gb388]? = some (.cells #[(.slice A0_0 l0_0.length c0_0), (.slice A0_1 l0_1.length c0_1), (.slice A0_2 l0_2.length c0_2), (.slice A0_3 l0_3.length c0_3), (.slice A0_4 l0_4.length c0_4)] 27 (0, 0))) ∧ Aside0 (Below w.heap.size w w'))
 case atStart => exact ⟨(([] : List (S49))), (0), (by first | rfl | (simp; done) | (simp [*]; done)), H', ⟨Nat.le_refl _⟩, ⟨by first | exact Kd.R_nil _ _ _ _ _ | exact Kd.N_nil _ _ _ _ _ | exact Kd.V_nil _ _ _ _ _ | exact Kd.Q_nil _ _ _ _ _ | exact Kd.S_nil _ _ _ _ _⟩, ⟨bk BK388.out⟩, ⟨bl⟩⟩
 clear H'
 clear hcz3_0 hcz3_1 hcz3_2 hcz3_3 hcz3_4 hfz3_0 hfz3_1 hfz3_2 hfz3_3 hfz3_4
 obtain ⟨x3_1, x10_1, rfl, HA, HK1, HO_3, BK388, HB⟩ := hrel
 cases gk with
 | zero => exact absurd HA.out (by simp [maskref4_EndsOf.l0])
 | succ k1 =>
  have H := HA.out
  clear HA
  simp only [maskref4_EndsOf.l0] at H
  by_cases c4 : x10_1 < (l0_2.length : Int)
  rotate_left
  · rw [if_neg c4] at H
    have c4b0 : decide (x10_1 < (l0_2.length : Int)) = false := decide_eq_false c4
    clear c4
    have H' := Aside0.mk H
    clear H
    obtain ⟨hcz15_0, hcz15_1, hcz15_2, hcz15_3, hcz15_4, hfz15_0, hfz15_1, hfz15_2, hfz15_3, hfz15_4⟩ := bz5 BK388.out
    go_wp2
    go_loopg [3, 33] k1 (fun kq v3 v33 w' => ∃ (x3_2 : List (S49)) (x33_2 : Int), v33 = .int .i64 x33_2 ∧ Aside0 (maskref4_EndsOf.l2 kq x3_2 (l0_4.length : Int) x33_2 = some r) ∧ Aside0 (kq ≤ k1) ∧ Aside0 (Kd.R k49 49 w' w.heap.size (fun _ => True) v3 x3_2) ∧ Aside0 (w'.heap[gb388]? = some (.cells #[(.slice A0_0 l0_0.length c0_0), (.slice A0_1 l0_1.length c0_1), (.slice A0_2 l0_2.length c0_2), (.slice A0_3 l0_3.length c0_3), (.slice A0_4 l0_4.length c0_4)] 27 (0, 0))) ∧ Aside0 (Below w.heap.size w w'))
    case atStart => exact ⟨(x3_1), (0), (by first | rfl | (simp; done) | (simp [*]; done)), H', ⟨Nat.le_refl _⟩, ⟨by (with_reducible repeat (first | apply Kd.R_alloc | apply Kd.R_drewN | apply Kd.R_drew)); exact HO_3.out⟩, ⟨bk BK388.out⟩, ⟨bl⟩⟩
    clear H'
    clear c4b0 hcz15_0 hcz15_1 hcz15_2 hcz15_3 hcz15_4 hfz15_0 hfz15_1 hfz15_2 hfz15_3 hfz15_4
    obtain ⟨x3_2, x33_2, rfl, HA, HK2, HO_3, BK388, HB⟩ := hrel
    cases gk with
    | zero => exact absurd HA.out (by simp [maskref4_EndsOf.l2])
    | succ k2 =>
     have H := HA.out
     clear HA
     simp only [maskref4_EndsOf.l2] at H
     by_cases c16 : x33_2 < (l0_4.length : Int)
     rotate_left
     · rw [if_neg c16] at H
       have c16b0 : decide (x33_2 < (l0_4.length : Int)) = false := decide_eq_false c16
       clear c16
       obtain rfl := Option.some.inj H
       go_wp2
       go_ret
       exact ⟨_, by first | rfl | (simp [errW_none, errW_some] <;> rfl) | (simp [*, errW_none, errW_some] <;> rfl), by (with_reducible repeat (first | apply Kd.R_alloc | apply Kd.R_drewN | apply Kd.R_drew)); exact HO_3.out, bl⟩
     rw [if_pos c16] at H
     have c16b0 : decide (x33_2 < (l0_4.length : Int)) = true := decide_eq_true c16
     clear c16
     by_cases c17 : x3_2.length < 2199023255552
     rotate_left
     · rw [if_neg c17] at H
       exact absurd H (by simp)
     rw [if_pos c17] at H
     have LMc17 := Aside0.mk c17
     clear c17
     obtain ⟨y394, hy394⟩ : ∃ y_ : List (S49), y_ = (x3_2 ++ [(⟨(-1), x33_2, (⟨false, 0, 0⟩ : S47), (⟨false, 0, 0⟩ : S47)⟩ : S49)]) := ⟨_, rfl⟩
     replace H : (maskref4_EndsOf.l2 k2 y394 (l0_4.length : Int) (wrap64 (x33_2 + 1))) = some r := by first | (rw [hy394]; with_reducible exact H) | (have H2_ := (Option.bind_some _ _).symm.trans H; rw [hy394]; with_reducible exact H2_) | (have H2_ := (Option.bind_some _ _).symm.trans H; with_reducible exact H2_) | with_reducible exact H | (rw [hy394]; exact H) | exact H
     have Ny394 := Aside0.mk hy394
     clear hy394
     have H' := Aside0.mk H
     clear H
     go_wp2_with ((with_reducible refine gate_builtin (b := .append) (xs := #[.tmp 36, .tmp 39]) rfl ?_); at_builtin; refine Kd.R_append k49 (w0 := w) w.heap.size rfl (.tmp 36) (.tmp 39) 45 49 (.agg #[(.int .i64 0), (.int .i64 0), (.bool false), (.int .i64 0), (.int .i64 0), (.bool false), (.int .i64 0), (.int .i64 0)]) 64 rfl Tryd.underlying45 info49 rfl (by decide) (by omega) u3 x3_2 (⟨(-1), x33_2, (⟨false, 0, 0⟩ : S47), (⟨false, 0, 0⟩ : S47)⟩ : S49) [.int .i64 (-1), .int .i64 x33_2, .bool false, .int .i64 0, .int .i64 0, .bool false, .int .i64 0, .int .i64 0] (fun _ => True) (fun _ => False) rfl rfl ?aP (fun _ hk => hk.elim) ?aF ?aO ?aB ?aS ?aL ?_; (case aP => exact k49_mkM _ _ _ (⟨(-1), x33_2, (⟨false, 0, 0⟩ : S47), (⟨false, 0, 0⟩ : S47)⟩ : S49)); (case aB => exact bl); (case aF => exact (fun _ _ => trivial)); (case aO => exact (by (with_reducible repeat (first | apply Kd.R_alloc | apply Kd.R_drewN | apply Kd.R_drew)); exact HO_3.out)); (case aS => exact (below_size bl)); (case aL => have := LMc17.out; omega); intro v395 w18 ho hb hg hat; rw [← Ny394.out] at ho; replace BK388 := Aside0.mk (blk_grown (bk BK388.out) hg (Kd.R_ne HO_3.out BK388.out (by decide))); replace HB := Aside0.mk (hb); have HO396 := Aside0.mk (ho); clear HO_3; clear ho hb hg hat)
     go_roundg k2
     case measure => have := HK1.out; have := HK2.out; omega
     case rel => exact ⟨(y394), (wrap64 (x33_2 + 1)), (by first | rfl | (simp; done) | (simp [*]; done)), H', ⟨by have := HK1.out; have := HK2.out; omega⟩, ⟨by (with_reducible repeat (first | apply Kd.R_alloc | apply Kd.R_drewN | apply Kd.R_drew)); exact HO396.out⟩, ⟨bk BK388.out⟩, ⟨bl⟩⟩
  rw [if_pos c4] at H
  have c4b0 : decide (x10_1 < (l0_2.length : Int)) = true := decide_eq_true c4
  clear c4
  have H' := Aside0.mk H
  clear H
  go_wp2
  go_loopg [3, 5] k1 (fun kq v3 v5 w' => ∃ (x3_2 : List (S49)) (x5_2 : Int), v5 = .int .i64 x5_2 ∧ Aside0 (maskref4_EndsOf.l1 kq x3_2 x10_1 x5_2 (l0_2.length : Int) x10_1 l0_0 l0_1 l0_2 l0_3 l0_4 = some r) ∧ Aside0 (kq ≤ k1) ∧ Aside0 (Kd.R k49 49 w' w.heap.size (fun _ => True) v3 x3_2) ∧ Aside0 (w'.heap[gb388]? = some (.cells #[(.slice A0_0 l0_0.length c0_0), (.slice A0_1 l0_1.length c0_1), (.slice A0_2 l0_2.length c0_2), (.slice A0_3 l0_3.length c0_3), (.slice A0_4 l0_4.length c0_4)] 27 (0, 0))) ∧ Aside0 (Below w.heap.size w w'))
  case atStart => exact ⟨(x3_1), (0), (by first | rfl | (simp; done) | (simp [*]; done)), H', ⟨Nat.le_refl _⟩, ⟨by (with_reducible repeat (first | apply Kd.R_alloc | apply Kd.R_drewN | apply Kd.R_drew)); exact HO_3.out⟩, ⟨bk BK388.out⟩, ⟨bl⟩⟩
  clear H'
  clear c4b0
  obtain ⟨x3_2, x5_2, rfl, HA, HK2, HO_3, BK388, HB⟩ := hrel
  cases gk with
  | zero => exact absurd HA.out (by simp [maskref4_EndsOf.l1])
  | succ k2 =>
   have H := HA.out
   clear HA
   simp only [maskref4_EndsOf.l1] at H
   by_cases c5 : 0 ≤ x10_1
   rotate_left
   · rw [if_neg c5] at H
     exact absurd H (by simp)
   rw [if_pos c5] at H
   have c5b0 : decide (0 ≤ x10_1) = true := decide_eq_true c5
   clear c5
   by_cases c6 : x10_1 < (l0_2.length : Int)
   rotate_left
   · rw [if_neg c6] at H
     exact absurd H (by simp)
   rw [if_pos c6] at H
   have c6b0 : decide (x10_1 < (l0_2.length : Int)) = true := decide_eq_true c6
   clear c6
   replace H := Option.bind_eq_some_iff.mp H
   obtain ⟨t390, A70, H⟩ := H
   replace H : (if x5_2 < t390 then (if x3_2.length < 2199023255552 then (maskref4_EndsOf.l1 k2 (x3_2 ++ [(⟨x10_1, x5_2, (⟨false, 0, 0⟩ : S47), (⟨false, 0, 0⟩ : S47)⟩ : S49)]) x10_1 (wrap64 (x5_2 + 1)) (l0_2.length : Int) x10_1 l0_0 l0_1 l0_2 l0_3 l0_4) else (none)) else (maskref4_EndsOf.l0 k2 x3_2 (l0_2.length : Int) (wrap64 (x10_1 + 1)) l0_0 l0_1 l0_2 l0_3 l0_4)) = some r := H
   have A7 := Aside0.mk A70
   clear A70
   by_cases c8 : x5_2 < t390
   rotate_left
   · rw [if_neg c8] at H
     have c8b0 : decide (x5_2 < t390) = false := decide_eq_false c8
     clear c8
     have H' := Aside0.mk H
     clear H
     have hcz13_2 : wr.cell? ⟨gb388, 2, none⟩ = some (.slice A0_2 l0_2.length c0_2) := (blk_cell BK388.out 2).trans rfl
     have p389 : 0 ≤ (x10_1 : Int) := of_decide_eq_true (by first | (with_reducible assumption) | assumption)
     have q389 : x10_1 < (l0_2.length : Int) := of_decide_eq_true (by first | (with_reducible assumption) | assumption)
     obtain ⟨ad389, e389, hx389_0, hx389_1, hx389_2, hx389_3, hx389_4⟩ := at_T58 HR0_2.out x10_1 p389 q389
     cases e389
     replace hx389_0 := hc HB.out hx389_0
     replace hx389_1 := hc HB.out hx389_1
     replace hx389_2 := hc HB.out hx389_2
     replace hx389_3 := hc HB.out hx389_3
     replace hx389_4 := hc HB.out hx389_4
     replace p389 := eq_true p389
     replace q389 := eq_true q389
     go_wp2_with ((with_reducible refine gate_callee (f := 18) rfl ?_); refine goesL_ (some 19) rfl rfl Tryd.func18 (by kernel_rfl) rfl #[.agg #[.string ((rd_T58 l0_2 x10_1).f0), .int .i64 ((rd_T58 l0_2 x10_1).f1), .int .i64 ((rd_T58 l0_2 x10_1).f2), .int .i64 ((rd_T58 l0_2 x10_1).f3), .bool ((rd_T58 l0_2 x10_1).f4)]] rfl (by (try simp only [List.map_toArray, List.map_cons, List.map_nil]); first | done | rfl | (simp only [List.length_drop, List.length_take]; rfl)) ?_; (with_reducible refine (maskref4_Takes.calls ((rd_T58 l0_2 x10_1).f0) ((rd_T58 l0_2 x10_1).f1) ((rd_T58 l0_2 x10_1).f2) ((rd_T58 l0_2 x10_1).f3) ((rd_T58 l0_2 x10_1).f4) t390 _ A7.out).mono ?_); rintro e w14 ⟨rfl, hb⟩; refine ⟨_, rfl, ?_⟩; replace HO_3 := Aside0.mk (rb HO_3.out hb); replace BK388 := Aside0.mk (bb BK388.out hb); replace HB := Aside0.mk (below_step bl hb); (try clear hb))
     go_roundg k2
     case measure => have := HK1.out; have := HK2.out; omega
     case rel => exact ⟨(x3_2), (wrap64 (x10_1 + 1)), (by first | rfl | (simp; done) | (simp [*]; done)), H', ⟨by have := HK1.out; have := HK2.out; omega⟩, ⟨by (with_reducible repeat (first | apply Kd.R_alloc | apply Kd.R_drewN | apply Kd.R_drew)); exact HO_3.out⟩, ⟨bk BK388.out⟩, ⟨bl⟩⟩
   rw [if_pos c8] at H
   have c8b0 : decide (x5_2 < t390) = true := decide_eq_true c8
   clear c8
   by_cases c9 : x3_2.length < 2199023255552
   rotate_left
   · rw [if_neg c9] at H
     exact absurd H (by simp)
   rw [if_pos c9] at H
   have LMc9 := Aside0.mk c9
   clear c9
   obtain ⟨y391, hy391⟩ : ∃ y_ : List (S49), y_ = (x3_2 ++ [(⟨x10_1, x5_2, (⟨false, 0, 0⟩ : S47), (⟨false, 0, 0⟩ : S47)⟩ : S49)]) := ⟨_, rfl⟩
   replace H : (maskref4_EndsOf.l1 k2 y391 x10_1 (wrap64 (x5_2 + 1)) (l0_2.length : Int) x10_1 l0_0 l0_1 l0_2 l0_3 l0_4) = some r := by first | (rw [hy391]; with_reducible exact H) | (have H2_ := (Option.bind_some _ _).symm.trans H; rw [hy391]; with_reducible exact H2_) | (have H2_ := (Option.bind_some _ _).symm.trans H; with_reducible exact H2_) | with_reducible exact H | (rw [hy391]; exact H) | exact H
   have Ny391 := Aside0.mk hy391
   clear hy391
   have H' := Aside0.mk H
   clear H
   have hcz10_2 : wr.cell? ⟨gb388, 2, none⟩ = some (.slice A0_2 l0_2.length c0_2) := (blk_cell BK388.out 2).trans rfl
   have p389 : 0 ≤ (x10_1 : Int) := of_decide_eq_true (by first | (with_reducible assumption) | assumption)
   have q389 : x10_1 < (l0_2.length : Int) := of_decide_eq_true (by first | (with_reducible assumption) | assumption)
   obtain ⟨ad389, e389, hx389_0, hx389_1, hx389_2, hx389_3, hx389_4⟩ := at_T58 HR0_2.out x10_1 p389 q389
   cases e389
   replace hx389_0 := hc HB.out hx389_0
   replace hx389_1 := hc HB.out hx389_1
   replace hx389_2 := hc HB.out hx389_2
   replace hx389_3 := hc HB.out hx389_3
   replace hx389_4 := hc HB.out hx389_4
   replace p389 := eq_true p389
   replace q389 := eq_true q389
   go_wp2_with (first | ((with_reducible refine gate_callee (f := 18) rfl ?_); refine goesL_ (some 19) rfl rfl Tryd.func18 (by kernel_rfl) rfl #[.agg #[.string ((rd_T58 l0_2 x10_1).f0), .int .i64 ((rd_T58 l0_2 x10_1).f1), .int .i64 ((rd_T58 l0_2 x10_1).f2), .int .i64 ((rd_T58 l0_2 x10_1).f3), .bool ((rd_T58 l0_2 x10_1).f4)]] rfl (by (try simp only [List.map_toArray, List.map_cons, List.map_nil]); first | done | rfl | (simp only [List.length_drop, List.length_take]; rfl)) ?_; (with_reducible refine (maskref4_Takes.calls ((rd_T58 l0_2 x10_1).f0) ((rd_T58 l0_2 x10_1).f1) ((rd_T58 l0_2 x10_1).f2) ((rd_T58 l0_2 x10_1).f3) ((rd_T58 l0_2 x10_1).f4) t390 _ A7.out).mono ?_); rintro e w11 ⟨rfl, hb⟩; refine ⟨_, rfl, ?_⟩; replace HO_3 := Aside0.mk (rb HO_3.out hb); replace BK388 := Aside0.mk (bb BK388.out hb); replace HB := Aside0.mk (below_step bl hb); (try clear hb)) | ((with_reducible refine gate_builtin (b := .append) (xs := #[.tmp 23, .tmp 27]) rfl ?_); at_builtin; refine Kd.R_append k49 (w0 := w) w.heap.size rfl (.tmp 23) (.tmp 27) 45 49 (.agg #[(.int .i64 0), (.int .i64 0), (.bool false), (.int .i64 0), (.int .i64 0), (.bool false), (.int .i64 0), (.int .i64 0)]) 64 rfl Tryd.underlying45 info49 rfl (by decide) (by omega) u3 x3_2 (⟨x10_1, x5_2, (⟨false, 0, 0⟩ : S47), (⟨false, 0, 0⟩ : S47)⟩ : S49) [.int .i64 x10_1, .int .i64 x5_2, .bool false, .int .i64 0, .int .i64 0, .bool false, .int .i64 0, .int .i64 0] (fun _ => True) (fun _ => False) rfl rfl ?aP (fun _ hk => hk.elim) ?aF ?aO ?aB ?aS ?aL ?_; (case aP => exact k49_mkM _ _ _ (⟨x10_1, x5_2, (⟨false, 0, 0⟩ : S47), (⟨false, 0, 0⟩ : S47)⟩ : S49)); (case aB => exact bl); (case aF => exact (fun _ _ => trivial)); (case aO => exact (by (with_reducible repeat (first | apply Kd.R_alloc | apply Kd.R_drewN | apply Kd.R_drew)); exact HO_3.out)); (case aS => exact (below_size bl)); (case aL => have := LMc9.out; omega); intro v392 w12 ho hb hg hat; rw [← Ny391.out] at ho; replace BK388 := Aside0.mk (blk_grown (bk BK388.out) hg (Kd.R_ne HO_3.out BK388.out (by decide))); replace HB := Aside0.mk (hb); have HO393 := Aside0.mk (ho); clear HO_3; clear ho hb hg hat))
   go_roundg k2
   case measure => have := HK1.out; have := HK2.out; omega
   case rel => exact ⟨(y391), (wrap64 (x5_2 + 1)), (by first | rfl | (simp; done) | (simp [*]; done)), H', ⟨by have := HK1.out; have := HK2.out; omega⟩, ⟨by (with_reducible repeat (first | apply Kd.R_alloc | apply Kd.R_drewN | apply Kd.R_drew)); exact HO393.out⟩, ⟨bk BK388.out⟩, ⟨bl⟩⟩

end Go.Proofs.YtlegjcagkmjfjaaDoor.PT
