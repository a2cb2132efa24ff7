-- PRINTED by print.py (a twelfth state) out of the translation. Not trusted: Lean checks it.
import Derived.Test.YtlegjcagkmjfjaaDoorCmp
import Derived.Test.YtlegjcagkmjfjaaDoorPTx0
import Derived.Test.YtlegjcagkmjfjaaDoorPTx50
namespace Go.Proofs.YtlegjcagkmjfjaaDoor.PT
open Go.RowKit Go.Proofs.YtlegjcagkmjfjaaDoorW.PrintWords Go.Proofs.YtlegjcagkmjfjaaDoorW.PrintLast Go.Proofs.YtlegjcagkmjfjaaDoorW.PrintMore
attribute [local go_sem] max2_int min2_int max_two min_two max_three min_three max_four min_four   -- for this text's walks alone
private theorem z1 {α : Type} {l : List α} {i : Nat} {a : α} : l.toArray.setIfInBounds i a = (l.set i a).toArray := List.setIfInBounds_toArray _ _ _
private theorem z2 {α : Type} {x : α} {xs : List α} {a : α} : (x :: xs).set 0 a = a :: xs := List.set_cons_zero
private theorem z3 {α : Type} {x : α} {xs : List α} {n : Nat} {a : α} : (x :: xs).set (n + 1) a = x :: xs.set n a := List.set_cons_succ
private abbrev zb (n m : Nat) : Array Bool := (List.replicate n true ++ List.replicate m false).toArray
set_option linter.unusedVariables false
set_option linter.unusedSimpArgs false

/-! ### maskref4_DelaysFault: function 15 -/
mutual
def maskref4_DelaysFault.j0 : Nat → Bool → List ByteArray → List ByteArray → List (S58) → List (S72) → List Int → List (List (S53)) → List (List (S53)) → List (S53) → List (S53) → List (S53) → Option (Int)
 | 0, _, _, _, _, _, _, _, _, _, _, _ => none
 | k + 1, x28, x314000, x314001, x314002, x314003, x314004, x315000, x315001, x315002, x315003, x315004 => if x28 = true then (some 4) else (maskref4_DelaysFault.l0 k (x314003.length : Int) 0 x314000 x314001 x314002 x314003 x314004 x315000 x315001 x315002 x315003 x315004)
def maskref4_DelaysFault.l0 : Nat → Int → Int → List ByteArray → List ByteArray → List (S58) → List (S72) → List Int → List (List (S53)) → List (List (S53)) → List (S53) → List (S53) → List (S53) → Option (Int)
 | 0, _, _, _, _, _, _, _, _, _, _, _, _ => none
 | k + 1, x31, x32, x314000, x314001, x314002, x314003, x314004, x315000, x315001, x315002, x315003, x315004 => if x32 < x31 then (if 0 ≤ x32 then (if x32 < (x315000.length : Int) then (if x32 < (x314003.length : Int) then ((maskref4_windowsFault.f k (rd_L10 x315000 x32) (((rd_T72 x314003 x32).f2).length : Int)).bind fun t317 => (if t317 = 0 then (maskref4_DelaysFault.l0 k x31 (wrap64 (x32 + 1)) x314000 x314001 x314002 x314003 x314004 x315000 x315001 x315002 x315003 x315004) else (some t317))) else (none)) else (none)) else (none)) else (maskref4_DelaysFault.l1 k (x314002.length : Int) 0 x314000 x314001 x314002 x314003 x314004 x315000 x315001 x315002 x315003 x315004)
def maskref4_DelaysFault.l1 : Nat → Int → Int → List ByteArray → List ByteArray → List (S58) → List (S72) → List Int → List (List (S53)) → List (List (S53)) → List (S53) → List (S53) → List (S53) → Option (Int)
 | 0, _, _, _, _, _, _, _, _, _, _, _, _ => none
 | k + 1, x54, x55, x314000, x314001, x314002, x314003, x314004, x315000, x315001, x315002, x315003, x315004 => if x55 < x54 then (if 0 ≤ x55 then (if x55 < (x315001.length : Int) then (if x55 < (x314002.length : Int) then ((maskref4_Takes.f ((rd_T58 x314002 x55).f0) ((rd_T58 x314002 x55).f1) ((rd_T58 x314002 x55).f2) ((rd_T58 x314002 x55).f3) ((rd_T58 x314002 x55).f4)).bind fun t320 => ((maskref4_windowsFault.f k (rd_L10 x315001 x55) t320).bind fun t321 => (if t321 = 0 then (maskref4_DelaysFault.l1 k x54 (wrap64 (x55 + 1)) x314000 x314001 x314002 x314003 x314004 x315000 x315001 x315002 x315003 x315004) else (some t321)))) else (none)) else (none)) else (none)) else ((some (([x315002, x315003, x315004] : List (List (S53))) : List (List (S53)))).bind fun y322 => (maskref4_DelaysFault.l2 k y322 (y322.length : Int) 0 x314000 x314001 x314002 x314003 x314004))
def maskref4_DelaysFault.l2 : Nat → List (List (S53)) → Int → Int → List ByteArray → List ByteArray → List (S58) → List (S72) → List Int → Option (Int)
 | 0, _, _, _, _, _, _, _, _ => none
 | k + 1, x80, x81, x82, x314000, x314001, x314002, x314003, x314004 => if x82 < x81 then (if 0 ≤ x82 then (if x82 < (x80.length : Int) then (if x82 = 0 then ((maskref4_windowsFault.f k (rd_L10 x80 x82) (x314004.length : Int)).bind fun t326 => (if t326 = 0 then (maskref4_DelaysFault.l2 k x80 x81 (wrap64 (x82 + 1)) x314000 x314001 x314002 x314003 x314004) else (some t326))) else ((maskref4_windowsFault.f k (rd_L10 x80 x82) (x314002.length : Int)).bind fun t327 => (if t327 = 0 then (maskref4_DelaysFault.l2 k x80 x81 (wrap64 (x82 + 1)) x314000 x314001 x314002 x314003 x314004) else (some t327)))) else (none)) else (none)) else (some 0)
end
def maskref4_DelaysFault.f (k : Nat) (l0_0 : List ByteArray) (l0_1 : List ByteArray) (l0_2 : List (S58)) (l0_3 : List (S72)) (l0_4 : List Int) (l1_0 : List (List (S53))) (l1_1 : List (List (S53))) (l1_2 : List (S53)) (l1_3 : List (S53)) (l1_4 : List (S53)) : Option (Int) := if (l1_0.length : Int) = (l0_3.length : Int) then (maskref4_DelaysFault.j0 k ((l1_1.length : Int) != (l0_2.length : Int)) l0_0 l0_1 l0_2 l0_3 l0_4 l1_0 l1_1 l1_2 l1_3 l1_4) else (maskref4_DelaysFault.j0 k true l0_0 l0_1 l0_2 l0_3 l0_4 l1_0 l1_1 l1_2 l1_3 l1_4)
theorem maskref4_DelaysFault.mono_l : ∀ k, (∀ y0 y1 y2 y3 y4 y5 y6 y7 y8 y9 y10, LeO (maskref4_DelaysFault.j0 k y0 y1 y2 y3 y4 y5 y6 y7 y8 y9 y10) (maskref4_DelaysFault.j0 (k + 1) y0 y1 y2 y3 y4 y5 y6 y7 y8 y9 y10)) ∧ (∀ y0 y1 y2 y3 y4 y5 y6 y7 y8 y9 y10 y11, LeO (maskref4_DelaysFault.l0 k y0 y1 y2 y3 y4 y5 y6 y7 y8 y9 y10 y11) (maskref4_DelaysFault.l0 (k + 1) y0 y1 y2 y3 y4 y5 y6 y7 y8 y9 y10 y11)) ∧ (∀ y0 y1 y2 y3 y4 y5 y6 y7 y8 y9 y10 y11, LeO (maskref4_DelaysFault.l1 k y0 y1 y2 y3 y4 y5 y6 y7 y8 y9 y10 y11) (maskref4_DelaysFault.l1 (k + 1) y0 y1 y2 y3 y4 y5 y6 y7 y8 y9 y10 y11)) ∧ (∀ y0 y1 y2 y3 y4 y5 y6 y7, LeO (maskref4_DelaysFault.l2 k y0 y1 y2 y3 y4 y5 y6 y7) (maskref4_DelaysFault.l2 (k + 1) y0 y1 y2 y3 y4 y5 y6 y7))
 | 0 => ⟨fun _ _ _ _ _ _ _ _ _ _ _ r h => by simp [maskref4_DelaysFault.j0] at h, fun _ _ _ _ _ _ _ _ _ _ _ _ r h => by simp [maskref4_DelaysFault.l0] at h, fun _ _ _ _ _ _ _ _ _ _ _ _ r h => by simp [maskref4_DelaysFault.l1] at h, fun _ _ _ _ _ _ _ _ r h => by simp [maskref4_DelaysFault.l2] at h⟩
 | k + 1 => by
  obtain ⟨ih0, ih1, ih2, ih3⟩ := maskref4_DelaysFault.mono_l k
  refine ⟨?_, ?_, ?_, ?_⟩
  · intro y0 y1 y2 y3 y4 y5 y6 y7 y8 y9 y10
    unfold maskref4_DelaysFault.j0
    repeat' first
    | (with_reducible exact ih1 _ _ _ _ _ _ _ _ _ _ _ _)
    | (with_reducible exact LeO.refl _)
    | (with_reducible exact LeO.none _)
    | (with_reducible refine LeO.ite ?_ ?_)
    | (with_reducible refine LeO.bind ?_ (fun _ => ?_))
  · intro y0 y1 y2 y3 y4 y5 y6 y7 y8 y9 y10 y11
    unfold maskref4_DelaysFault.l0
    repeat' first
    | (with_reducible exact ih1 _ _ _ _ _ _ _ _ _ _ _ _)
    | (with_reducible exact ih2 _ _ _ _ _ _ _ _ _ _ _ _)
    | (with_reducible exact maskref4_windowsFault.mono _ _ _)
    | (with_reducible exact LeO.refl _)
    | (with_reducible exact LeO.none _)
    | (with_reducible refine LeO.ite ?_ ?_)
    | (with_reducible refine LeO.bind ?_ (fun _ => ?_))
  · intro y0 y1 y2 y3 y4 y5 y6 y7 y8 y9 y10 y11
    unfold maskref4_DelaysFault.l1
    repeat' first
    | (with_reducible exact ih2 _ _ _ _ _ _ _ _ _ _ _ _)
    | (with_reducible exact ih3 _ _ _ _ _ _ _ _)
    | (with_reducible exact maskref4_windowsFault.mono _ _ _)
    | (with_reducible exact LeO.refl _)
    | (with_reducible exact LeO.none _)
    | (with_reducible refine LeO.ite ?_ ?_)
    | (with_reducible refine LeO.bind ?_ (fun _ => ?_))
  · intro y0 y1 y2 y3 y4 y5 y6 y7
    unfold maskref4_DelaysFault.l2
    repeat' first
    | (with_reducible exact ih3 _ _ _ _ _ _ _ _)
    | (with_reducible exact maskref4_windowsFault.mono _ _ _)
    | (with_reducible exact LeO.refl _)
    | (with_reducible exact LeO.none _)
    | (with_reducible refine LeO.ite ?_ ?_)
    | (with_reducible refine LeO.bind ?_ (fun _ => ?_))
theorem maskref4_DelaysFault.mono : ∀ a0 a1 a2 a3 a4 a5 a6 a7 a8 a9 k, LeO (maskref4_DelaysFault.f k a0 a1 a2 a3 a4 a5 a6 a7 a8 a9) (maskref4_DelaysFault.f (k + 1) a0 a1 a2 a3 a4 a5 a6 a7 a8 a9) := by
 intro a0 a1 a2 a3 a4 a5 a6 a7 a8 a9 k
 obtain ⟨ih0, ih1, ih2, ih3⟩ := maskref4_DelaysFault.mono_l k
 unfold maskref4_DelaysFault.f
 repeat' first
  | (with_reducible exact ih0 _ _ _ _ _ _ _ _ _ _ _)
  | (with_reducible exact LeO.refl _)
  | (with_reducible exact LeO.none _)
  | (with_reducible refine LeO.ite ?_ ?_)
  | (with_reducible refine LeO.bind ?_ (fun _ => ?_))
def maskref4_DelaysFault.T6 : Bool × List (List Nat × List Nat) := (true, [([], []), ([0], [0]), ([], []), ([1, 2], [1, 2]), ([3], [3]), ([], []), ([5], [5]), ([], []), ([6, 7], [6, 7]), ([8], [8]), ([9], [9]), ([10], [10]), ([4, 11], [4, 11]), ([12, 12, 0, 1, 2, 3, 4, 5, 6, 7, 8, 9, 10, 11, 12], [12])])
def maskref4_DelaysFault.B6 : List Nat := [0, 1, 0, 7, 15, 0, 32, 0, 224, 480, 992, 2016, 4095, 8191]
theorem maskref4_DelaysFault.tab6 : rtab .any (opsOf Tryd.f15 6) = maskref4_DelaysFault.T6 := by kernel_rfl
theorem maskref4_DelaysFault.bits6 : waitsOk maskref4_DelaysFault.T6.2 maskref4_DelaysFault.B6 = true := by kernel_rfl
def maskref4_DelaysFault.T13 : Bool × List (List Nat × List Nat) := (true, [([], []), ([0], [0]), ([], []), ([1, 2], [1, 2]), ([3], [3]), ([], []), ([5], [5]), ([], []), ([6, 7], [6, 7]), ([8], [8]), ([9], [9]), ([4, 10, 10], [4, 10]), ([11, 11, 0, 1, 2, 3, 4, 5, 6, 7, 8, 9, 10, 11], [11])])
def maskref4_DelaysFault.B13 : List Nat := [0, 1, 0, 7, 15, 0, 32, 0, 224, 480, 992, 2047, 4095]
theorem maskref4_DelaysFault.tab13 : rtab .any (opsOf Tryd.f15 13) = maskref4_DelaysFault.T13 := by kernel_rfl
theorem maskref4_DelaysFault.bits13 : waitsOk maskref4_DelaysFault.T13.2 maskref4_DelaysFault.B13 = true := by kernel_rfl
set_option maxHeartbeats 8000000 in
set_option maxRecDepth 100000 in
theorem maskref4_DelaysFault.calls (k : Nat) (A0_0 : Option Addr) (c0_0 : Nat) (l0_0 : List ByteArray) (A0_1 : Option Addr) (c0_1 : Nat) (l0_1 : List ByteArray) (A0_2 : Option Addr) (c0_2 : Nat) (l0_2 : List (S58)) (A0_3 : Option Addr) (c0_3 : Nat) (l0_3 : List (S72)) (A0_4 : Option Addr) (c0_4 : Nat) (l0_4 : List Int) (A1_0 : Option Addr) (c1_0 : Nat) (l1_0 : List (List (S53))) (A1_1 : Option Addr) (c1_1 : Nat) (l1_1 : List (List (S53))) (P1_2_ : Nat → Prop) (A1_2 : Option Addr) (c1_2 : Nat) (l1_2 : List (S53)) (P1_3_ : Nat → Prop) (A1_3 : Option Addr) (c1_3 : Nat) (l1_3 : List (S53)) (P1_4_ : Nat → Prop) (A1_4 : Option Addr) (c1_4 : Nat) (l1_4 : List (S53)) (r : Int) (w : World) (hr0_0 : Kd.C Kd.string w A0_0 l0_0.length l0_0) (hc0_0 : l0_0.length ≤ c0_0) (hr0_1 : Kd.C Kd.string w A0_1 l0_1.length l0_1) (hc0_1 : l0_1.length ≤ c0_1) (hr0_2 : Kd.C k58 w A0_2 l0_2.length l0_2) (hc0_2 : l0_2.length ≤ c0_2) (hr0_3 : Kd.C k72 w A0_3 l0_3.length l0_3) (hc0_3 : l0_3.length ≤ c0_3) (hr0_4 : Kd.C (Kd.int .i64) w A0_4 l0_4.length l0_4) (hc0_4 : l0_4.length ≤ c0_4) (hr1_0 : Kd.C (Kd.slice 53 k53) w A1_0 l1_0.length l1_0) (hc1_0 : l1_0.length ≤ c1_0) (hr1_1 : Kd.C (Kd.slice 53 k53) w A1_1 l1_1.length l1_1) (hc1_1 : l1_1.length ≤ c1_1) (hs1_2 : Kd.V k53 53 w w.heap.size (fun k_ => P1_2_ k_) (.slice A1_2 l1_2.length c1_2) l1_2) (hs1_3 : Kd.V k53 53 w w.heap.size (fun k_ => P1_3_ k_) (.slice A1_3 l1_3.length c1_3) l1_3) (hs1_4 : Kd.V k53 53 w w.heap.size (fun k_ => P1_4_ k_) (.slice A1_4 l1_4.length c1_4) l1_4) (h : maskref4_DelaysFault.f k l0_0 l0_1 l0_2 l0_3 l0_4 l1_0 l1_1 l1_2 l1_3 l1_4 = some r) :
 Calls Tryd.prog 15 #[.agg #[.slice A0_0 l0_0.length c0_0, .slice A0_1 l0_1.length c0_1, .slice A0_2 l0_2.length c0_2, .slice A0_3 l0_3.length c0_3, .slice A0_4 l0_4.length c0_4], .agg #[.slice A1_0 l1_0.length c1_0, .slice A1_1 l1_1.length c1_1, .slice A1_2 l1_2.length c1_2, .slice A1_3 l1_3.length c1_3, .slice A1_4 l1_4.length c1_4]] w fun e w' => e = .returned (.int .i64 r) ∧ Below w.heap.size w w' := by
 clear hr0_0 hc0_0
 clear hr0_1 hc0_1
 have HR0_2 := Aside0.mk hr0_2
 clear hr0_2 hc0_2
 have HR0_3 := Aside0.mk hr0_3
 clear hr0_3 hc0_3
 clear hr0_4 hc0_4
 have HR1_0 := Aside0.mk hr1_0
 clear hr1_0 hc1_0
 have HR1_1 := Aside0.mk hr1_1
 clear hr1_1 hc1_1
 have HO1_2 := Aside0.mk (show Kd.V k53 53 w w.heap.size (fun k_ => ((P1_2_ k_ ∨ P1_3_ k_ ∨ P1_4_ k_) ∨ w.heap.size ≤ k_)) (.slice A1_2 l1_2.length c1_2) l1_2 from Kd.V_mono hs1_2 (fun k_ hk => .inl (.inl hk)))
 have HO1_3 := Aside0.mk (show Kd.V k53 53 w w.heap.size (fun k_ => ((P1_2_ k_ ∨ P1_3_ k_ ∨ P1_4_ k_) ∨ w.heap.size ≤ k_)) (.slice A1_3 l1_3.length c1_3) l1_3 from Kd.V_mono hs1_3 (fun k_ hk => .inl (.inr (.inl hk))))
 have HO1_4 := Aside0.mk (show Kd.V k53 53 w w.heap.size (fun k_ => ((P1_2_ k_ ∨ P1_3_ k_ ∨ P1_4_ k_) ∨ w.heap.size ≤ k_)) (.slice A1_4 l1_4.length c1_4) l1_4 from Kd.V_mono hs1_4 (fun k_ hk => .inl (.inr (.inr hk))))
 have HB := Aside0.mk (Below.refl w.heap.size w)
 have H : (if (l1_0.length : Int) = (l0_3.length : Int) then (maskref4_DelaysFault.j0 k ((l1_1.length : Int) != (l0_2.length : Int)) l0_0 l0_1 l0_2 l0_3 l0_4 l1_0 l1_1 l1_2 l1_3 l1_4) else (maskref4_DelaysFault.j0 k true l0_0 l0_1 l0_2 l0_3 l0_4 l1_0 l1_1 l1_2 l1_3 l1_4)) = some r := h
 clear h
 have HC3 := Aside0.mk H
 clear H
 go_enter Tryd.func15, Tryd.ntmps15
 go_upto_region 1 with (first | ((with_reducible refine gate_dst (N := 2) rfl ?_); (try (refine gate_guard (by rfl) ?_; dsimp only)); refine box_event ?hg (N := 2) ?hd (cs := #[.slice A0_0 l0_0.length c0_0, .slice A0_1 l0_1.length c0_1, .slice A0_2 l0_2.length c0_2, .slice A0_3 l0_3.length c0_3, .slice A0_4 l0_4.length c0_4]) (t := 27) ?hr ?_; (case hd => rfl); (case hg => rfl); (case hr => first | (go_simp; done) | (go_simp; rfl)); intro gb313 hg w4 hbox hb; have n0_ := Aside0.mk (Kd.V_below (Kd.V_elderB (by (with_reducible repeat (first | apply Kd.V_alloc | apply Kd.V_drewN | apply Kd.V_drew)); exact HO1_2.out) gb313 (Nat.le_of_eq hg.symm)) hb); have n1_ := Aside0.mk (Kd.V_below (Kd.V_elderB (by (with_reducible repeat (first | apply Kd.V_alloc | apply Kd.V_drewN | apply Kd.V_drew)); exact HO1_3.out) gb313 (Nat.le_of_eq hg.symm)) hb); have n2_ := Aside0.mk (Kd.V_below (Kd.V_elderB (by (with_reducible repeat (first | apply Kd.V_alloc | apply Kd.V_drewN | apply Kd.V_drew)); exact HO1_4.out) gb313 (Nat.le_of_eq hg.symm)) hb); have n3_ := Aside0.mk (below_step bl hb); have n4_ := Aside0.mk (hbox); have n5_ := Aside0.mk (ge (w := w) hg); have n6_ := Aside0.mk (ge (w := w) hg); clear HO1_2; clear HO1_3; clear HO1_4; clear HB; have HO1_2 := n0_; have HO1_3 := n1_; have HO1_4 := n2_; have HB := n3_; have BK313 := n4_; clear n0_ n1_ n2_ n3_ n4_ n5_ n6_; clear hb hbox hg) | ((with_reducible refine gate_dst (N := 3) rfl ?_); (try (refine gate_guard (by rfl) ?_; dsimp only)); refine box_event ?hg (N := 3) ?hd (cs := #[.slice A1_0 l1_0.length c1_0, .slice A1_1 l1_1.length c1_1, .slice A1_2 l1_2.length c1_2, .slice A1_3 l1_3.length c1_3, .slice A1_4 l1_4.length c1_4]) (t := 32) ?hr ?_; (case hd => rfl); (case hg => rfl); (case hr => first | (go_simp; done) | (go_simp; rfl)); intro gb314 hg w5 hbox hb; have n0_ := Aside0.mk (Kd.V_below (Kd.V_elderB (by (with_reducible repeat (first | apply Kd.V_alloc | apply Kd.V_drewN | apply Kd.V_drew)); exact HO1_2.out) gb314 (Nat.le_of_eq hg.symm)) hb); have n1_ := Aside0.mk (Kd.V_below (Kd.V_elderB (by (with_reducible repeat (first | apply Kd.V_alloc | apply Kd.V_drewN | apply Kd.V_drew)); exact HO1_3.out) gb314 (Nat.le_of_eq hg.symm)) hb); have n2_ := Aside0.mk (Kd.V_below (Kd.V_elderB (by (with_reducible repeat (first | apply Kd.V_alloc | apply Kd.V_drewN | apply Kd.V_drew)); exact HO1_4.out) gb314 (Nat.le_of_eq hg.symm)) hb); have n3_ := Aside0.mk (bb BK313.out hb); have n4_ := Aside0.mk (below_step bl hb); have n5_ := Aside0.mk (hbox); have n6_ := Aside0.mk (ge (w := w) hg); have n7_ := Aside0.mk (ge (w := w) hg); have n8_ := Aside0.mk (nl hg (bk BK313.out)); have n9_ := Aside0.mk (ng hg (bk BK313.out)); clear HO1_2; clear HO1_3; clear HO1_4; clear BK313; clear HB; have HO1_2 := n0_; have HO1_3 := n1_; have HO1_4 := n2_; have BK313 := n3_; have HB := n4_; have BK314 := n5_; have NB313_314 := n8_; have NB314_313 := n9_; clear n0_ n1_ n2_ n3_ n4_ n5_ n6_ n7_ n8_ n9_; clear hb hbox hg))
 (try simp only [Act.put, z1, z2, z3])
 go_cut [28] (fun v28 wc => ∃ (kq : Nat) (x28_2 : Bool), v28 = .bool x28_2 ∧ Aside0 (maskref4_DelaysFault.j0 kq x28_2 l0_0 l0_1 l0_2 l0_3 l0_4 l1_0 l1_1 l1_2 l1_3 l1_4 = some r) ∧ Aside0 (kq ≤ k) ∧ Aside0 (Kd.V k53 53 wc w.heap.size (fun k_ => ((P1_2_ k_ ∨ P1_3_ k_ ∨ P1_4_ k_) ∨ w.heap.size ≤ k_) ∧ k_ ≠ gb313 ∧ k_ ≠ gb314) (.slice A1_2 l1_2.length c1_2) l1_2) ∧ Aside0 (Kd.V k53 53 wc w.heap.size (fun k_ => ((P1_2_ k_ ∨ P1_3_ k_ ∨ P1_4_ k_) ∨ w.heap.size ≤ k_) ∧ k_ ≠ gb313 ∧ k_ ≠ gb314) (.slice A1_3 l1_3.length c1_3) l1_3) ∧ Aside0 (Kd.V k53 53 wc w.heap.size (fun k_ => ((P1_2_ k_ ∨ P1_3_ k_ ∨ P1_4_ k_) ∨ w.heap.size ≤ k_) ∧ k_ ≠ gb313 ∧ k_ ≠ gb314) (.slice A1_4 l1_4.length c1_4) l1_4) ∧ Aside0 (wc.heap[gb313]? = some (.cells #[(.slice A0_0 l0_0.length c0_0), (.slice A0_1 l0_1.length c0_1), (.slice A0_2 l0_2.length c0_2), (.slice A0_3 l0_3.length c0_3), (.slice A0_4 l0_4.length c0_4)] 27 (0, 0))) ∧ Aside0 (wc.heap[gb314]? = some (.cells #[(.slice A1_0 l1_0.length c1_0), (.slice A1_1 l1_1.length c1_1), (.slice A1_2 l1_2.length c1_2), (.slice A1_3 l1_3.length c1_3), (.slice A1_4 l1_4.length c1_4)] 32 (0, 0))) ∧ Aside0 (Below w.heap.size w wc))
 case first =>
  have H := HC3.out
  clear HC3
  by_cases c6 : (l1_0.length : Int) = (l0_3.length : Int)
  rotate_left
  · rw [if_neg c6] at H
    have c6b0 : ((l1_0.length : Int) == (l0_3.length : Int)) = false := beq_eq_false_iff_ne.mpr c6
    have c6b1 : ((l1_0.length : Int) != (l0_3.length : Int)) = true := bne_iff_ne.mpr c6
    (first | rw [c6b0] | (simp only [i64_w, i32_w]; rw [c6b0]) | skip)
    have H' := Aside0.mk H
    clear H
    obtain ⟨hcz11_0, -⟩ := bz1 BK314.out
    obtain ⟨-, -, -, hcz12_3, -, -, -, -⟩ := bz4 BK313.out
    go_wp2
    go_meet
    case rel => exact ⟨_, (true), (by first | rfl | (simp; done) | (simp [*]; done)), H', ⟨by first | omega | exact Nat.le_refl _⟩, ⟨by (with_reducible repeat (first | apply Kd.V_alloc | apply Kd.V_drewN | apply Kd.V_drew)); exact Kd.V_mono HO1_2.out (fun _ hk => ⟨hk.1.1, ⟨hk.1.2, hk.2⟩⟩)⟩, ⟨by (with_reducible repeat (first | apply Kd.V_alloc | apply Kd.V_drewN | apply Kd.V_drew)); exact Kd.V_mono HO1_3.out (fun _ hk => ⟨hk.1.1, ⟨hk.1.2, hk.2⟩⟩)⟩, ⟨by (with_reducible repeat (first | apply Kd.V_alloc | apply Kd.V_drewN | apply Kd.V_drew)); exact Kd.V_mono HO1_4.out (fun _ hk => ⟨hk.1.1, ⟨hk.1.2, hk.2⟩⟩)⟩, ⟨bk BK313.out⟩, ⟨bk BK314.out⟩, ⟨bl⟩⟩
  rw [if_pos c6] at H
  have c6b0 : ((l1_0.length : Int) == (l0_3.length : Int)) = true := beq_iff_eq.mpr c6
  have c6b1 : ((l1_0.length : Int) != (l0_3.length : Int)) = false := bne_eq_false_iff_eq.mpr c6
  clear c6
  (first | rw [c6b0] | (simp only [i64_w, i32_w]; rw [c6b0]) | skip)
  have H' := Aside0.mk H
  clear H
  obtain ⟨hcz8_0, hcz8_1, -, -⟩ := bz2 BK314.out
  obtain ⟨-, -, hcz9_2, hcz9_3, -, -, -, -⟩ := bz4 BK313.out
  go_wp2
  go_meet
  case rel => exact ⟨_, (((l1_1.length : Int) != (l0_2.length : Int))), (by first | rfl | (simp; done) | (simp [*]; done)), H', ⟨by first | omega | exact Nat.le_refl _⟩, ⟨by (with_reducible repeat (first | apply Kd.V_alloc | apply Kd.V_drewN | apply Kd.V_drew)); exact Kd.V_mono HO1_2.out (fun _ hk => ⟨hk.1.1, ⟨hk.1.2, hk.2⟩⟩)⟩, ⟨by (with_reducible repeat (first | apply Kd.V_alloc | apply Kd.V_drewN | apply Kd.V_drew)); exact Kd.V_mono HO1_3.out (fun _ hk => ⟨hk.1.1, ⟨hk.1.2, hk.2⟩⟩)⟩, ⟨by (with_reducible repeat (first | apply Kd.V_alloc | apply Kd.V_drewN | apply Kd.V_drew)); exact Kd.V_mono HO1_4.out (fun _ hk => ⟨hk.1.1, ⟨hk.1.2, hk.2⟩⟩)⟩, ⟨bk BK313.out⟩, ⟨bk BK314.out⟩, ⟨bl⟩⟩
 clear HC3
 obtain ⟨kq, x28_2, rfl, HA, HJ2, HO_315002, HO_315003, HO_315004, BK313, BK314, HB⟩ := hcut
 cases kq with
 | zero => exact absurd HA.out (by simp [maskref4_DelaysFault.j0])
 | succ kj2 =>
  have H := HA.out
  clear HA
  simp only [maskref4_DelaysFault.j0] at H
  by_cases c13 : x28_2 = true
  · subst c13
    have H1 : (some 4) = some r := by rw [if_pos rfl] at H; exact H
    clear H
    have H := H1
    clear H1
    obtain rfl := Option.some.inj H
    go_wp2
    go_ret
    exact ⟨by first | rfl | (simp [errW_none, errW_some] <;> rfl) | (simp [*, errW_none, errW_some] <;> rfl), bl⟩
  replace c13 := Bool.eq_false_iff.mpr c13
  subst c13
  have H1 : (maskref4_DelaysFault.l0 kj2 (l0_3.length : Int) 0 l0_0 l0_1 l0_2 l0_3 l0_4 l1_0 l1_1 l1_2 l1_3 l1_4) = some r := by rw [if_neg (show ¬ (false = true) by decide)] at H; exact H
  clear H
  have H := H1
  clear H1
  have H' := Aside0.mk H
  clear H
  obtain ⟨hcz15_0, hcz15_1, hcz15_2, hcz15_3, hcz15_4, hfz15_0, hfz15_1, hfz15_2, hfz15_3, hfz15_4⟩ := bz5 BK313.out
  go_wp2
  go_loopg [32] kj2 (fun kq v32 w' => ∃ (x32_2 : Int), v32 = .int .i64 x32_2 ∧ Aside0 (maskref4_DelaysFault.l0 kq (l0_3.length : Int) x32_2 l0_0 l0_1 l0_2 l0_3 l0_4 l1_0 l1_1 l1_2 l1_3 l1_4 = some r) ∧ Aside0 (kq ≤ kj2) ∧ Aside0 (Kd.V k53 53 w' w.heap.size (fun k_ => ((P1_2_ k_ ∨ P1_3_ k_ ∨ P1_4_ k_) ∨ w.heap.size ≤ k_) ∧ k_ ≠ gb313 ∧ k_ ≠ gb314) (.slice A1_2 l1_2.length c1_2) l1_2) ∧ Aside0 (Kd.V k53 53 w' w.heap.size (fun k_ => ((P1_2_ k_ ∨ P1_3_ k_ ∨ P1_4_ k_) ∨ w.heap.size ≤ k_) ∧ k_ ≠ gb313 ∧ k_ ≠ gb314) (.slice A1_3 l1_3.length c1_3) l1_3) ∧ Aside0 (Kd.V k53 53 w' w.heap.size (fun k_ => ((P1_2_ k_ ∨ P1_3_ k_ ∨ P1_4_ k_) ∨ w.heap.size ≤ k_) ∧ k_ ≠ gb313 ∧ k_ ≠ gb314) (.slice A1_4 l1_4.length c1_4) l1_4) ∧ Aside0 (w'.heap[gb313]? = some (.cells #[(.slice A0_0 l0_0.length c0_0), (.slice A0_1 l0_1.length c0_1), (.slice A0_2 l0_2.length c0_2), (.slice A0_3 l0_3.length c0_3), (.slice A0_4 l0_4.length c0_4)] 27 (0, 0))) ∧ Aside0 (w'.heap[gb314]? = some (.cells #[(.slice A1_0 l1_0.length c1_0), (.slice A1_1 l1_1.length c1_1), (.slice A1_2 l1_2.length c1_2), (.slice A1_3 l1_3.length c1_3), (.slice A1_4 l1_4.length c1_4)] 32 (0, 0))) ∧ Aside0 (Below w.heap.size w w'))
  case atStart => exact ⟨(0), (by first | rfl | (simp; done) | (simp [*]; done)), H', ⟨Nat.le_refl _⟩, ⟨by (with_reducible repeat (first | apply Kd.V_alloc | apply Kd.V_drewN | apply Kd.V_drew)); exact HO_315002.out⟩, ⟨by (with_reducible repeat (first | apply Kd.V_alloc | apply Kd.V_drewN | apply Kd.V_drew)); exact HO_315003.out⟩, ⟨by (with_reducible repeat (first | apply Kd.V_alloc | apply Kd.V_drewN | apply Kd.V_drew)); exact HO_315004.out⟩, ⟨bk BK313.out⟩, ⟨bk BK314.out⟩, ⟨bl⟩⟩
  clear H'
  clear hcz15_0 hcz15_1 hcz15_2 hcz15_3 hcz15_4 hfz15_0 hfz15_1 hfz15_2 hfz15_3 hfz15_4
  obtain ⟨x32_2, rfl, HA, HK2, HO_315002, HO_315003, HO_315004, BK313, BK314, HB⟩ := hrel
  cases gk with
  | zero => exact absurd HA.out (by simp [maskref4_DelaysFault.l0])
  | succ k2 =>
   have H := HA.out
   clear HA
   simp only [maskref4_DelaysFault.l0] at H
   by_cases c16 : x32_2 < (l0_3.length : Int)
   · rw [if_pos c16] at H
     have c16b0 : decide (x32_2 < (l0_3.length : Int)) = true := decide_eq_true c16
     clear c16
     by_cases c17 : 0 ≤ x32_2
     rotate_left
     · rw [if_neg c17] at H
       exact absurd H (by simp)
     rw [if_pos c17] at H
     have c17b0 : decide (0 ≤ x32_2) = true := decide_eq_true c17
     clear c17
     by_cases c18 : x32_2 < (l1_0.length : Int)
     rotate_left
     · rw [if_neg c18] at H
       exact absurd H (by simp)
     rw [if_pos c18] at H
     have c18b0 : decide (x32_2 < (l1_0.length : Int)) = true := decide_eq_true c18
     clear c18
     by_cases c19 : x32_2 < (l0_3.length : Int)
     rotate_left
     · rw [if_neg c19] at H
       exact absurd H (by simp)
     rw [if_pos c19] at H
     have c19b0 : decide (x32_2 < (l0_3.length : Int)) = true := decide_eq_true c19
     clear c19
     replace H := Option.bind_eq_some_iff.mp H
     obtain ⟨t317, A200, H⟩ := H
     replace H : (if t317 = 0 then (maskref4_DelaysFault.l0 k2 (l0_3.length : Int) (wrap64 (x32_2 + 1)) l0_0 l0_1 l0_2 l0_3 l0_4 l1_0 l1_1 l1_2 l1_3 l1_4) else (some t317)) = some r := H
     have A20 := Aside0.mk A200
     clear A200
     by_cases c21 : t317 = 0
     rotate_left
     · rw [if_neg c21] at H
       have c21b1 : (t317 != 0) = true := bne_iff_ne.mpr c21
       obtain rfl := Option.some.inj H
       try go_wp2
       have n0_ := Aside0.mk (Kd.V_drew HO_315002.out)
       have n1_ := Aside0.mk (Kd.V_drew HO_315003.out)
       have n2_ := Aside0.mk (Kd.V_drew HO_315004.out)
       have n3_ := Aside0.mk (blk_drew BK313.out)
       have n4_ := Aside0.mk (blk_drew BK314.out)
       have n5_ := Aside0.mk (below_drew1 HB.out)
       clear HO_315002
       clear HO_315003
       clear HO_315004
       clear BK313
       clear BK314
       clear HB
       have HO_315002 := n0_
       have HO_315003 := n1_
       have HO_315004 := n2_
       have BK313 := n3_
       have BK314 := n4_
       have HB := n5_
       clear n0_ n1_ n2_ n3_ n4_ n5_
       have p315 : 0 ≤ (x32_2 : Int) := of_decide_eq_true (by first | (with_reducible assumption) | assumption)
       have q315 : x32_2 < (l1_0.length : Int) := of_decide_eq_true (by first | (with_reducible assumption) | assumption)
       obtain ⟨ad315, A315_0, c315_0, e315, hx315_0, hl315_0, hi315_0⟩ := at_L10 HR1_0.out x32_2 p315 q315
       have hw315_0 := hx315_0
       cases e315
       replace hx315_0 := hc HB.out hx315_0
       have HR315_0 := Aside0.mk hi315_0
       have HC315_0 := Aside0.mk hl315_0
       clear hi315_0 hl315_0
       replace p315 := eq_true p315
       replace q315 := eq_true q315
       have p316 : 0 ≤ (x32_2 : Int) := of_decide_eq_true (by first | (with_reducible assumption) | assumption)
       have q316 : x32_2 < (l0_3.length : Int) := of_decide_eq_true (by first | (with_reducible assumption) | assumption)
       obtain ⟨ad316, A316_2, c316_2, e316, hx316_0, hx316_1, hx316_2, hl316_2, hi316_2⟩ := at_T72 HR0_3.out x32_2 p316 q316
       have hw316_2 := hx316_2
       have hw316_1 := hx316_1
       have hw316_0 := hx316_0
       cases e316
       replace hx316_0 := hc HB.out hx316_0
       replace hx316_1 := hc HB.out hx316_1
       replace hx316_2 := hc HB.out hx316_2
       have HR316_2 := Aside0.mk hi316_2
       clear hi316_2 hl316_2
       replace p316 := eq_true p316
       replace q316 := eq_true q316
       refine start_ (n := 14) (S := fun w' => w'.cell? ⟨gb314, 0, none⟩ = some (.slice (some ad315) l1_0.length c1_0) ∧ w'.cell? ⟨gb314, 1, none⟩ = some (.slice A1_1 l1_1.length c1_1) ∧ w'.cell? ⟨gb314, 2, none⟩ = some (.slice A1_2 l1_2.length c1_2) ∧ w'.cell? ⟨gb314, 3, none⟩ = some (.slice A1_3 l1_3.length c1_3) ∧ w'.cell? ⟨gb314, 4, none⟩ = some (.slice A1_4 l1_4.length c1_4) ∧ w'.cell? ⟨gb313, 0, none⟩ = some (.slice A0_0 l0_0.length c0_0) ∧ w'.cell? ⟨gb313, 1, none⟩ = some (.slice A0_1 l0_1.length c0_1) ∧ w'.cell? ⟨gb313, 2, none⟩ = some (.slice A0_2 l0_2.length c0_2) ∧ w'.cell? ⟨gb313, 3, none⟩ = some (.slice (some ad316) l0_3.length c0_3) ∧ w'.cell? ⟨gb313, 4, none⟩ = some (.slice A0_4 l0_4.length c0_4) ∧ w'.cell? (ad315.add (x32_2).toNat) = some (.slice A315_0 (rd_L10 l1_0 x32_2).length c315_0) ∧ w'.cell? (ad316.add ((x32_2).toNat * 3)) = some (.int .i64 ((rd_T72 l0_3 x32_2).f0)) ∧ w'.cell? ⟨(ad316.add ((x32_2).toNat * 3)).block, (ad316.add ((x32_2).toNat * 3)).off + 1, none⟩ = some (.int .u64 ((rd_T72 l0_3 x32_2).f1)) ∧ w'.cell? ⟨(ad316.add ((x32_2).toNat * 3)).block, (ad316.add ((x32_2).toNat * 3)).off + 2, none⟩ = some (.slice A316_2 ((rd_T72 l0_3 x32_2).f2).length c316_2)) (ds := []) (zb 0 14) (by kernel_rfl) rfl rfl ⟨(blk_cell BK314.out 0).trans rfl, (blk_cell BK314.out 1).trans rfl, (blk_cell BK314.out 2).trans rfl, (blk_cell BK314.out 3).trans rfl, (blk_cell BK314.out 4).trans rfl, (blk_cell BK313.out 0).trans rfl, (blk_cell BK313.out 1).trans rfl, (blk_cell BK313.out 2).trans rfl, (blk_cell BK313.out 3).trans rfl, (blk_cell BK313.out 4).trans rfl, (hc HB.out hw315_0), (hc HB.out hw316_0), (hc HB.out hw316_1), (hc HB.out hw316_2)⟩ (fun hHeld => ?_); refine with_tabW maskref4_DelaysFault.tab6 maskref4_DelaysFault.bits6 (fun HT_ HW_ => ?_)
       generalize wr.drew = w24 at HO_315002 HO_315003 HO_315004 BK313 BK314 HB HR315_0 HR316_2 hx315_0 hx316_0 hx316_1 hx316_2 hHeld ⊢
       refine pure_ (i := 0) (N := some 35) (v := ?_) (a' := ?_) (zb 1 13) rfl rfl (any_of HT_.out (by kernel_rfl)) (fun _ _ _ h => h) (Or.inl ⟨by rfl, ?_⟩) ?_ ?_
       rotate_left; focus (intro w'; go_simp; with_reducible rfl)
       rotate_left; focus (simp only [Act.put, z1, z2, z3, i64_w, i32_w]; rfl)
       refine pure_ (i := 2) (N := some 37) (v := ?_) (a' := ?_) #[true,false,true,false,false,false,false,false,false,false,false,false,false,false] rfl rfl (any_of HT_.out (by kernel_rfl)) (fun _ _ _ h => h) (Or.inl ⟨by rfl, ?_⟩) ?_ ?_
       rotate_left; focus (intro w'; go_simp; with_reducible rfl)
       rotate_left; focus (simp only [Act.put, z1, z2, z3, i64_w, i32_w]; rfl)
       refine pure_ (i := 5) (N := some 40) (v := ?_) (a' := ?_) #[true,false,true,false,false,true,false,false,false,false,false,false,false,false] rfl rfl (any_of HT_.out (by kernel_rfl)) (fun _ _ _ h => h) (Or.inl ⟨by rfl, ?_⟩) ?_ ?_
       rotate_left; focus (intro w'; go_simp; with_reducible rfl)
       rotate_left; focus (simp only [Act.put, z1, z2, z3, i64_w, i32_w]; rfl)
       refine pure_ (i := 7) (N := some 42) (v := ?_) (a' := ?_) #[true,false,true,false,false,true,false,true,false,false,false,false,false,false] rfl rfl (any_of HT_.out (by kernel_rfl)) (fun _ _ _ h => h) (Or.inl ⟨by rfl, ?_⟩) ?_ ?_
       rotate_left; focus (intro w'; go_simp; with_reducible rfl)
       rotate_left; focus (simp only [Act.put, z1, z2, z3, i64_w, i32_w]; rfl)
       refine take_ (i := 1) (N := some 36) (v := ?_) (a' := ?_) #[true,true,true,false,false,true,false,true,false,false,false,false,false,false] rfl rfl (take_ofW HT_.out HW_.out (by kernel_rfl)) (fun _ _ _ h => h) (Or.inl ⟨by rfl, ?_⟩) hHeld ?_ ?_
       rotate_left
       · rintro w' ⟨s0, s1, s2, s3, s4, s5, s6, s7, s8, s9, s10, s11, s12, s13⟩
         go_simp
         with_reducible rfl
       rotate_left; focus (simp only [Act.put, z1, z2, z3, i64_w, i32_w]; rfl)
       refine pure_ (i := 3) (N := some 38) (v := ?_) (a' := ?_) #[true,true,true,true,false,true,false,true,false,false,false,false,false,false] rfl rfl (any_of HT_.out (by kernel_rfl)) (fun _ _ _ h => h) (Or.inl ⟨by rfl, ?_⟩) ?_ ?_
       rotate_left; focus (intro w'; go_simp; with_reducible rfl)
       rotate_left; focus (simp only [Act.put, z1, z2, z3, i64_w, i32_w]; rfl)
       refine take_ (i := 4) (N := some 39) (v := ?_) (a' := ?_) #[true,true,true,true,true,true,false,true,false,false,false,false,false,false] rfl rfl (take_ofW HT_.out HW_.out (by kernel_rfl)) (fun _ _ _ h => h) (Or.inl ⟨by rfl, ?_⟩) hHeld ?_ ?_
       rotate_left
       · rintro w' ⟨s0, s1, s2, s3, s4, s5, s6, s7, s8, s9, s10, s11, s12, s13⟩
         go_simp
         with_reducible rfl
       rotate_left; focus (simp only [Act.put, z1, z2, z3, i64_w, i32_w]; rfl)
       refine take_ (i := 6) (N := some 41) (v := ?_) (a' := ?_) (zb 8 6) rfl rfl (take_ofW HT_.out HW_.out (by kernel_rfl)) (fun _ _ _ h => h) (Or.inl ⟨by rfl, ?_⟩) hHeld ?_ ?_
       rotate_left
       · rintro w' ⟨s0, s1, s2, s3, s4, s5, s6, s7, s8, s9, s10, s11, s12, s13⟩
         go_simp
         with_reducible rfl
       rotate_left; focus (simp only [Act.put, z1, z2, z3, i64_w, i32_w]; rfl)
       refine pure_ (i := 8) (N := some 43) (v := ?_) (a' := ?_) (zb 9 5) rfl rfl (any_of HT_.out (by kernel_rfl)) (fun _ _ _ h => h) (Or.inl ⟨by rfl, ?_⟩) ?_ ?_
       rotate_left; focus (intro w'; go_simp; with_reducible rfl)
       rotate_left; focus (simp only [Act.put, z1, z2, z3, i64_w, i32_w]; rfl)
       refine pure_ (i := 9) (N := some 44) (v := ?_) (a' := ?_) (zb 10 4) rfl rfl (any_of HT_.out (by kernel_rfl)) (fun _ _ _ h => h) (Or.inl ⟨by rfl, ?_⟩) ?_ ?_
       rotate_left; focus (intro w'; go_simp; with_reducible rfl)
       rotate_left; focus (simp only [Act.put, z1, z2, z3, i64_w, i32_w]; rfl)
       refine take_ (i := 10) (N := some 45) (v := ?_) (a' := ?_) (zb 11 3) rfl rfl (take_ofW HT_.out HW_.out (by kernel_rfl)) (fun _ _ _ h => h) (Or.inl ⟨by rfl, ?_⟩) hHeld ?_ ?_
       rotate_left
       · rintro w' ⟨s0, s1, s2, s3, s4, s5, s6, s7, s8, s9, s10, s11, s12, s13⟩
         go_simp
         with_reducible rfl
       rotate_left; focus (simp only [Act.put, z1, z2, z3, i64_w, i32_w]; rfl)
       refine pure_ (i := 11) (N := some 46) (v := ?_) (a' := ?_) (zb 12 2) rfl rfl (any_of HT_.out (by kernel_rfl)) (fun _ _ _ h => h) (Or.inl ⟨by rfl, ?_⟩) ?_ ?_
       rotate_left; focus (intro w'; go_simp; with_reducible rfl)
       rotate_left; focus (simp only [Act.put, z1, z2, z3, i64_w, i32_w]; rfl)
       refine one_ (i := 12) (N := some 47) (zb 13 1) rfl rfl (one_of HT_.out (by kernel_rfl)) (by decide) (fun K hK => ?_)
       refine goes_ Tryd.func28 (by kernel_rfl) rfl #[.slice A315_0 (rd_L10 l1_0 x32_2).length c315_0, .int .i64 (((rd_T72 l0_3 x32_2).f2).length : Int)] (by rfl) rfl rfl (by (try simp only [List.map_toArray, List.map_cons, List.map_nil]); first | done | rfl | (simp only [List.length_drop, List.length_take]; rfl)) ?_
       with_reducible refine (maskref4_windowsFault.calls k2 _ _ (rd_L10 l1_0 x32_2) (((rd_T72 l0_3 x32_2).f2).length : Int) t317 _ ?side1 ?side2 A20.out).mono ?_
       (case side1 => exact kc (Kd.C_below HR315_0.out HB.out))
       (case side2 => exact HC315_0.out)
       rintro e w25 ⟨rfl, hb⟩
       refine ⟨_, rfl, ?_⟩
       have n0_ := Aside0.mk (vb HO_315002.out hb)
       have n1_ := Aside0.mk (vb HO_315003.out hb)
       have n2_ := Aside0.mk (vb HO_315004.out hb)
       have n3_ := Aside0.mk (bb BK313.out hb)
       have n4_ := Aside0.mk (bb BK314.out hb)
       have n5_ := Aside0.mk (below_step bl hb)
       clear HO_315002
       clear HO_315003
       clear HO_315004
       clear BK313
       clear BK314
       clear HB
       have BK313 := n3_
       have BK314 := n4_
       have HB := n5_
       clear n0_ n1_ n2_ n3_ n4_ n5_
       (try clear hb)
       (try clear hb2)
       (try clear hk)
       (try clear hi)
       refine hK.out _ _ ⟨(blk_cell BK314.out 0).trans rfl, (blk_cell BK314.out 1).trans rfl, (blk_cell BK314.out 2).trans rfl, (blk_cell BK314.out 3).trans rfl, (blk_cell BK314.out 4).trans rfl, (blk_cell BK313.out 0).trans rfl, (blk_cell BK313.out 1).trans rfl, (blk_cell BK313.out 2).trans rfl, (blk_cell BK313.out 3).trans rfl, (blk_cell BK313.out 4).trans rfl, (hc HB.out hw315_0), (hc HB.out hw316_0), (hc HB.out hw316_1), (hc HB.out hw316_2)⟩ (fun hHeld => ?_)
       clear hK K
       refine norm_ (a' := ?_) ?_ ?_
       rotate_left; focus (show Act.put _ (some 47) _ = _; simp only [Act.put, z1, z2, z3, i64_w, i32_w]; rfl)
       refine pure_ (i := 13) (N := some 6) (v := ?_) (a' := ?_) (zb 14 0) rfl rfl (any_of HT_.out (by kernel_rfl)) (fun _ _ _ h => h) (Or.inl ⟨by rfl, ?_⟩) ?_ ?_
       rotate_left; focus (intro w'; go_simp; with_reducible rfl)
       rotate_left; focus (simp only [Act.put, z1, z2, z3, i64_w, i32_w]; rfl)
       refine done_ (done_of HT_.out (by kernel_rfl)) ?_
       try go_wp2
       go_ret
       exact ⟨by first | rfl | (simp [errW_none, errW_some] <;> rfl) | (simp [*, errW_none, errW_some] <;> rfl), bl⟩
     rw [if_pos c21] at H
     have c21b1 : (t317 != 0) = false := bne_eq_false_iff_eq.mpr c21
     clear c21
     have H' := Aside0.mk H
     clear H
     try go_wp2
     have n0_ := Aside0.mk (Kd.V_drew HO_315002.out)
     have n1_ := Aside0.mk (Kd.V_drew HO_315003.out)
     have n2_ := Aside0.mk (Kd.V_drew HO_315004.out)
     have n3_ := Aside0.mk (blk_drew BK313.out)
     have n4_ := Aside0.mk (blk_drew BK314.out)
     have n5_ := Aside0.mk (below_drew1 HB.out)
     clear HO_315002
     clear HO_315003
     clear HO_315004
     clear BK313
     clear BK314
     clear HB
     have HO_315002 := n0_
     have HO_315003 := n1_
     have HO_315004 := n2_
     have BK313 := n3_
     have BK314 := n4_
     have HB := n5_
     clear n0_ n1_ n2_ n3_ n4_ n5_
     have p315 : 0 ≤ (x32_2 : Int) := of_decide_eq_true (by first | (with_reducible assumption) | assumption)
     have q315 : x32_2 < (l1_0.length : Int) := of_decide_eq_true (by first | (with_reducible assumption) | assumption)
     obtain ⟨ad315, A315_0, c315_0, e315, hx315_0, hl315_0, hi315_0⟩ := at_L10 HR1_0.out x32_2 p315 q315
     have hw315_0 := hx315_0
     cases e315
     replace hx315_0 := hc HB.out hx315_0
     have HR315_0 := Aside0.mk hi315_0
     have HC315_0 := Aside0.mk hl315_0
     clear hi315_0 hl315_0
     replace p315 := eq_true p315
     replace q315 := eq_true q315
     have p316 : 0 ≤ (x32_2 : Int) := of_decide_eq_true (by first | (with_reducible assumption) | assumption)
     have q316 : x32_2 < (l0_3.length : Int) := of_decide_eq_true (by first | (with_reducible assumption) | assumption)
     obtain ⟨ad316, A316_2, c316_2, e316, hx316_0, hx316_1, hx316_2, hl316_2, hi316_2⟩ := at_T72 HR0_3.out x32_2 p316 q316
     have hw316_2 := hx316_2
     have hw316_1 := hx316_1
     have hw316_0 := hx316_0
     cases e316
     replace hx316_0 := hc HB.out hx316_0
     replace hx316_1 := hc HB.out hx316_1
     replace hx316_2 := hc HB.out hx316_2
     have HR316_2 := Aside0.mk hi316_2
     clear hi316_2 hl316_2
     replace p316 := eq_true p316
     replace q316 := eq_true q316
     refine start_ (n := 14) (S := fun w' => w'.cell? ⟨gb314, 0, none⟩ = some (.slice (some ad315) l1_0.length c1_0) ∧ w'.cell? ⟨gb314, 1, none⟩ = some (.slice A1_1 l1_1.length c1_1) ∧ w'.cell? ⟨gb314, 2, none⟩ = some (.slice A1_2 l1_2.length c1_2) ∧ w'.cell? ⟨gb314, 3, none⟩ = some (.slice A1_3 l1_3.length c1_3) ∧ w'.cell? ⟨gb314, 4, none⟩ = some (.slice A1_4 l1_4.length c1_4) ∧ w'.cell? ⟨gb313, 0, none⟩ = some (.slice A0_0 l0_0.length c0_0) ∧ w'.cell? ⟨gb313, 1, none⟩ = some (.slice A0_1 l0_1.length c0_1) ∧ w'.cell? ⟨gb313, 2, none⟩ = some (.slice A0_2 l0_2.length c0_2) ∧ w'.cell? ⟨gb313, 3, none⟩ = some (.slice (some ad316) l0_3.length c0_3) ∧ w'.cell? ⟨gb313, 4, none⟩ = some (.slice A0_4 l0_4.length c0_4) ∧ w'.cell? (ad315.add (x32_2).toNat) = some (.slice A315_0 (rd_L10 l1_0 x32_2).length c315_0) ∧ w'.cell? (ad316.add ((x32_2).toNat * 3)) = some (.int .i64 ((rd_T72 l0_3 x32_2).f0)) ∧ w'.cell? ⟨(ad316.add ((x32_2).toNat * 3)).block, (ad316.add ((x32_2).toNat * 3)).off + 1, none⟩ = some (.int .u64 ((rd_T72 l0_3 x32_2).f1)) ∧ w'.cell? ⟨(ad316.add ((x32_2).toNat * 3)).block, (ad316.add ((x32_2).toNat * 3)).off + 2, none⟩ = some (.slice A316_2 ((rd_T72 l0_3 x32_2).f2).length c316_2)) (ds := []) (zb 0 14) (by kernel_rfl) rfl rfl ⟨(blk_cell BK314.out 0).trans rfl, (blk_cell BK314.out 1).trans rfl, (blk_cell BK314.out 2).trans rfl, (blk_cell BK314.out 3).trans rfl, (blk_cell BK314.out 4).trans rfl, (blk_cell BK313.out 0).trans rfl, (blk_cell BK313.out 1).trans rfl, (blk_cell BK313.out 2).trans rfl, (blk_cell BK313.out 3).trans rfl, (blk_cell BK313.out 4).trans rfl, (hc HB.out hw315_0), (hc HB.out hw316_0), (hc HB.out hw316_1), (hc HB.out hw316_2)⟩ (fun hHeld => ?_); refine with_tabW maskref4_DelaysFault.tab6 maskref4_DelaysFault.bits6 (fun HT_ HW_ => ?_)
     generalize wr.drew = w22 at HO_315002 HO_315003 HO_315004 BK313 BK314 HB HR315_0 HR316_2 hx315_0 hx316_0 hx316_1 hx316_2 hHeld ⊢
     refine pure_ (i := 0) (N := some 35) (v := ?_) (a' := ?_) (zb 1 13) rfl rfl (any_of HT_.out (by kernel_rfl)) (fun _ _ _ h => h) (Or.inl ⟨by rfl, ?_⟩) ?_ ?_
     rotate_left; focus (intro w'; go_simp; with_reducible rfl)
     rotate_left; focus (simp only [Act.put, z1, z2, z3, i64_w, i32_w]; rfl)
     refine pure_ (i := 2) (N := some 37) (v := ?_) (a' := ?_) #[true,false,true,false,false,false,false,false,false,false,false,false,false,false] rfl rfl (any_of HT_.out (by kernel_rfl)) (fun _ _ _ h => h) (Or.inl ⟨by rfl, ?_⟩) ?_ ?_
     rotate_left; focus (intro w'; go_simp; with_reducible rfl)
     rotate_left; focus (simp only [Act.put, z1, z2, z3, i64_w, i32_w]; rfl)
     refine pure_ (i := 5) (N := some 40) (v := ?_) (a' := ?_) #[true,false,true,false,false,true,false,false,false,false,false,false,false,false] rfl rfl (any_of HT_.out (by kernel_rfl)) (fun _ _ _ h => h) (Or.inl ⟨by rfl, ?_⟩) ?_ ?_
     rotate_left; focus (intro w'; go_simp; with_reducible rfl)
     rotate_left; focus (simp only [Act.put, z1, z2, z3, i64_w, i32_w]; rfl)
     refine pure_ (i := 7) (N := some 42) (v := ?_) (a' := ?_) #[true,false,true,false,false,true,false,true,false,false,false,false,false,false] rfl rfl (any_of HT_.out (by kernel_rfl)) (fun _ _ _ h => h) (Or.inl ⟨by rfl, ?_⟩) ?_ ?_
     rotate_left; focus (intro w'; go_simp; with_reducible rfl)
     rotate_left; focus (simp only [Act.put, z1, z2, z3, i64_w, i32_w]; rfl)
     refine take_ (i := 1) (N := some 36) (v := ?_) (a' := ?_) #[true,true,true,false,false,true,false,true,false,false,false,false,false,false] rfl rfl (take_ofW HT_.out HW_.out (by kernel_rfl)) (fun _ _ _ h => h) (Or.inl ⟨by rfl, ?_⟩) hHeld ?_ ?_
     rotate_left
     · rintro w' ⟨s0, s1, s2, s3, s4, s5, s6, s7, s8, s9, s10, s11, s12, s13⟩
       go_simp
       with_reducible rfl
     rotate_left; focus (simp only [Act.put, z1, z2, z3, i64_w, i32_w]; rfl)
     refine pure_ (i := 3) (N := some 38) (v := ?_) (a' := ?_) #[true,true,true,true,false,true,false,true,false,false,false,false,false,false] rfl rfl (any_of HT_.out (by kernel_rfl)) (fun _ _ _ h => h) (Or.inl ⟨by rfl, ?_⟩) ?_ ?_
     rotate_left; focus (intro w'; go_simp; with_reducible rfl)
     rotate_left; focus (simp only [Act.put, z1, z2, z3, i64_w, i32_w]; rfl)
     refine take_ (i := 4) (N := some 39) (v := ?_) (a' := ?_) #[true,true,true,true,true,true,false,true,false,false,false,false,false,false] rfl rfl (take_ofW HT_.out HW_.out (by kernel_rfl)) (fun _ _ _ h => h) (Or.inl ⟨by rfl, ?_⟩) hHeld ?_ ?_
     rotate_left
     · rintro w' ⟨s0, s1, s2, s3, s4, s5, s6, s7, s8, s9, s10, s11, s12, s13⟩
       go_simp
       with_reducible rfl
     rotate_left; focus (simp only [Act.put, z1, z2, z3, i64_w, i32_w]; rfl)
     refine take_ (i := 6) (N := some 41) (v := ?_) (a' := ?_) (zb 8 6) rfl rfl (take_ofW HT_.out HW_.out (by kernel_rfl)) (fun _ _ _ h => h) (Or.inl ⟨by rfl, ?_⟩) hHeld ?_ ?_
     rotate_left
     · rintro w' ⟨s0, s1, s2, s3, s4, s5, s6, s7, s8, s9, s10, s11, s12, s13⟩
       go_simp
       with_reducible rfl
     rotate_left; focus (simp only [Act.put, z1, z2, z3, i64_w, i32_w]; rfl)
     refine pure_ (i := 8) (N := some 43) (v := ?_) (a' := ?_) (zb 9 5) rfl rfl (any_of HT_.out (by kernel_rfl)) (fun _ _ _ h => h) (Or.inl ⟨by rfl, ?_⟩) ?_ ?_
     rotate_left; focus (intro w'; go_simp; with_reducible rfl)
     rotate_left; focus (simp only [Act.put, z1, z2, z3, i64_w, i32_w]; rfl)
     refine pure_ (i := 9) (N := some 44) (v := ?_) (a' := ?_) (zb 10 4) rfl rfl (any_of HT_.out (by kernel_rfl)) (fun _ _ _ h => h) (Or.inl ⟨by rfl, ?_⟩) ?_ ?_
     rotate_left; focus (intro w'; go_simp; with_reducible rfl)
     rotate_left; focus (simp only [Act.put, z1, z2, z3, i64_w, i32_w]; rfl)
     refine take_ (i := 10) (N := some 45) (v := ?_) (a' := ?_) (zb 11 3) rfl rfl (take_ofW HT_.out HW_.out (by kernel_rfl)) (fun _ _ _ h => h) (Or.inl ⟨by rfl, ?_⟩) hHeld ?_ ?_
     rotate_left
     · rintro w' ⟨s0, s1, s2, s3, s4, s5, s6, s7, s8, s9, s10, s11, s12, s13⟩
       go_simp
       with_reducible rfl
     rotate_left; focus (simp only [Act.put, z1, z2, z3, i64_w, i32_w]; rfl)
     refine pure_ (i := 11) (N := some 46) (v := ?_) (a' := ?_) (zb 12 2) rfl rfl (any_of HT_.out (by kernel_rfl)) (fun _ _ _ h => h) (Or.inl ⟨by rfl, ?_⟩) ?_ ?_
     rotate_left; focus (intro w'; go_simp; with_reducible rfl)
     rotate_left; focus (simp only [Act.put, z1, z2, z3, i64_w, i32_w]; rfl)
     refine one_ (i := 12) (N := some 47) (zb 13 1) rfl rfl (one_of HT_.out (by kernel_rfl)) (by decide) (fun K hK => ?_)
     refine goes_ Tryd.func28 (by kernel_rfl) rfl #[.slice A315_0 (rd_L10 l1_0 x32_2).length c315_0, .int .i64 (((rd_T72 l0_3 x32_2).f2).length : Int)] (by rfl) rfl rfl (by (try simp only [List.map_toArray, List.map_cons, List.map_nil]); first | done | rfl | (simp only [List.length_drop, List.length_take]; rfl)) ?_
     with_reducible refine (maskref4_windowsFault.calls k2 _ _ (rd_L10 l1_0 x32_2) (((rd_T72 l0_3 x32_2).f2).length : Int) t317 _ ?side1 ?side2 A20.out).mono ?_
     (case side1 => exact kc (Kd.C_below HR315_0.out HB.out))
     (case side2 => exact HC315_0.out)
     rintro e w23 ⟨rfl, hb⟩
     refine ⟨_, rfl, ?_⟩
     have n0_ := Aside0.mk (vb HO_315002.out hb)
     have n1_ := Aside0.mk (vb HO_315003.out hb)
     have n2_ := Aside0.mk (vb HO_315004.out hb)
     have n3_ := Aside0.mk (bb BK313.out hb)
     have n4_ := Aside0.mk (bb BK314.out hb)
     have n5_ := Aside0.mk (below_step bl hb)
     clear HO_315002
     clear HO_315003
     clear HO_315004
     clear BK313
     clear BK314
     clear HB
     have HO_315002 := n0_
     have HO_315003 := n1_
     have HO_315004 := n2_
     have BK313 := n3_
     have BK314 := n4_
     have HB := n5_
     clear n0_ n1_ n2_ n3_ n4_ n5_
     (try clear hb)
     (try clear hb2)
     (try clear hk)
     (try clear hi)
     refine hK.out _ _ ⟨(blk_cell BK314.out 0).trans rfl, (blk_cell BK314.out 1).trans rfl, (blk_cell BK314.out 2).trans rfl, (blk_cell BK314.out 3).trans rfl, (blk_cell BK314.out 4).trans rfl, (blk_cell BK313.out 0).trans rfl, (blk_cell BK313.out 1).trans rfl, (blk_cell BK313.out 2).trans rfl, (blk_cell BK313.out 3).trans rfl, (blk_cell BK313.out 4).trans rfl, (hc HB.out hw315_0), (hc HB.out hw316_0), (hc HB.out hw316_1), (hc HB.out hw316_2)⟩ (fun hHeld => ?_)
     clear hK K
     refine norm_ (a' := ?_) ?_ ?_
     rotate_left; focus (show Act.put _ (some 47) _ = _; simp only [Act.put, z1, z2, z3, i64_w, i32_w]; rfl)
     refine pure_ (i := 13) (N := some 6) (v := ?_) (a' := ?_) (zb 14 0) rfl rfl (any_of HT_.out (by kernel_rfl)) (fun _ _ _ h => h) (Or.inl ⟨by rfl, ?_⟩) ?_ ?_
     rotate_left; focus (intro w'; go_simp; with_reducible rfl)
     rotate_left; focus (simp only [Act.put, z1, z2, z3, i64_w, i32_w]; rfl)
     refine done_ (done_of HT_.out (by kernel_rfl)) ?_
     try go_wp2
     go_roundg k2
     case measure => have := HJ2.out; have := HK2.out; omega
     case rel => exact ⟨(wrap64 (x32_2 + 1)), (by first | rfl | (simp; done) | (simp [*]; done)), H', ⟨by have := HJ2.out; have := HK2.out; omega⟩, ⟨by (with_reducible repeat (first | apply Kd.V_alloc | apply Kd.V_drewN | apply Kd.V_drew)); exact HO_315002.out⟩, ⟨by (with_reducible repeat (first | apply Kd.V_alloc | apply Kd.V_drewN | apply Kd.V_drew)); exact HO_315003.out⟩, ⟨by (with_reducible repeat (first | apply Kd.V_alloc | apply Kd.V_drewN | apply Kd.V_drew)); exact HO_315004.out⟩, ⟨bk BK313.out⟩, ⟨bk BK314.out⟩, ⟨bl⟩⟩
   rw [if_neg c16] at H
   have c16b0 : decide (x32_2 < (l0_3.length : Int)) = false := decide_eq_false c16
   clear c16
   have H' := Aside0.mk H
   clear H
   obtain ⟨hcz27_0, hcz27_1, hcz27_2, hcz27_3, hcz27_4, hfz27_0, hfz27_1, hfz27_2, hfz27_3, hfz27_4⟩ := bz5 BK313.out
   go_wp2
   go_loopg [55] k2 (fun kq v55 w' => ∃ (x55_3 : Int), v55 = .int .i64 x55_3 ∧ Aside0 (maskref4_DelaysFault.l1 kq (l0_2.length : Int) x55_3 l0_0 l0_1 l0_2 l0_3 l0_4 l1_0 l1_1 l1_2 l1_3 l1_4 = some r) ∧ Aside0 (kq ≤ k2) ∧ Aside0 (Kd.V k53 53 w' w.heap.size (fun k_ => ((P1_2_ k_ ∨ P1_3_ k_ ∨ P1_4_ k_) ∨ w.heap.size ≤ k_) ∧ k_ ≠ gb313 ∧ k_ ≠ gb314) (.slice A1_2 l1_2.length c1_2) l1_2) ∧ Aside0 (Kd.V k53 53 w' w.heap.size (fun k_ => ((P1_2_ k_ ∨ P1_3_ k_ ∨ P1_4_ k_) ∨ w.heap.size ≤ k_) ∧ k_ ≠ gb313 ∧ k_ ≠ gb314) (.slice A1_3 l1_3.length c1_3) l1_3) ∧ Aside0 (Kd.V k53 53 w' w.heap.size (fun k_ => ((P1_2_ k_ ∨ P1_3_ k_ ∨ P1_4_ k_) ∨ w.heap.size ≤ k_) ∧ k_ ≠ gb313 ∧ k_ ≠ gb314) (.slice A1_4 l1_4.length c1_4) l1_4) ∧ Aside0 (w'.heap[gb313]? = some (.cells #[(.slice A0_0 l0_0.length c0_0), (.slice A0_1 l0_1.length c0_1), (.slice A0_2 l0_2.length c0_2), (.slice A0_3 l0_3.length c0_3), (.slice A0_4 l0_4.length c0_4)] 27 (0, 0))) ∧ Aside0 (w'.heap[gb314]? = some (.cells #[(.slice A1_0 l1_0.length c1_0), (.slice A1_1 l1_1.length c1_1), (.slice A1_2 l1_2.length c1_2), (.slice A1_3 l1_3.length c1_3), (.slice A1_4 l1_4.length c1_4)] 32 (0, 0))) ∧ Aside0 (Below w.heap.size w w'))
   case atStart => exact ⟨(0), (by first | rfl | (simp; done) | (simp [*]; done)), H', ⟨Nat.le_refl _⟩, ⟨by (with_reducible repeat (first | apply Kd.V_alloc | apply Kd.V_drewN | apply Kd.V_drew)); exact HO_315002.out⟩, ⟨by (with_reducible repeat (first | apply Kd.V_alloc | apply Kd.V_drewN | apply Kd.V_drew)); exact HO_315003.out⟩, ⟨by (with_reducible repeat (first | apply Kd.V_alloc | apply Kd.V_drewN | apply Kd.V_drew)); exact HO_315004.out⟩, ⟨bk BK313.out⟩, ⟨bk BK314.out⟩, ⟨bl⟩⟩
   clear H'
   clear c16b0 hcz27_0 hcz27_1 hcz27_2 hcz27_3 hcz27_4 hfz27_0 hfz27_1 hfz27_2 hfz27_3 hfz27_4
   obtain ⟨x55_3, rfl, HA, HK3, HO_315002, HO_315003, HO_315004, BK313, BK314, HB⟩ := hrel
   cases gk with
   | zero => exact absurd HA.out (by simp [maskref4_DelaysFault.l1])
   | succ k3 =>
    have H := HA.out
    clear HA
    simp only [maskref4_DelaysFault.l1] at H
    by_cases c28 : x55_3 < (l0_2.length : Int)
    rotate_left
    · rw [if_neg c28] at H
      have c28b0 : decide (x55_3 < (l0_2.length : Int)) = false := decide_eq_false c28
      clear c28
      obtain ⟨y322, hy322⟩ : ∃ y_ : List (List (S53)), y_ = (([l1_2, l1_3, l1_4] : List (List (S53)))) := ⟨_, rfl⟩
      replace H : (maskref4_DelaysFault.l2 k3 y322 (y322.length : Int) 0 l0_0 l0_1 l0_2 l0_3 l0_4) = some r := by first | (rw [hy322]; with_reducible exact H) | (have H2_ := (Option.bind_some _ _).symm.trans H; rw [hy322]; with_reducible exact H2_) | (have H2_ := (Option.bind_some _ _).symm.trans H; with_reducible exact H2_) | with_reducible exact H | (rw [hy322]; exact H) | exact H
      have Ny322 := Aside0.mk hy322
      clear hy322
      have H' := Aside0.mk H
      clear H
      obtain ⟨hcz42_0, hcz42_1, hcz42_2, hcz42_3, hcz42_4, hfz42_0, hfz42_1, hfz42_2, hfz42_3, hfz42_4⟩ := bz5 BK314.out
      go_wp2_with ((with_reducible refine gate_dst (N := 80) rfl ?_); (try (refine gate_guard (by rfl) ?_; dsimp only)); refine Kd.N_lit (Kd.slice 53 k53) _ 30 ?hg (N' := 80) ?hd (xs := ([l1_2, l1_3, l1_4] : List (List (S53)))) (inner := [.slice A1_2 l1_2.length c1_2, .slice A1_3 l1_3.length c1_3, .slice A1_4 l1_4.length c1_4]) (ok := (fun k_ => ((P1_2_ k_ ∨ P1_3_ k_ ∨ P1_4_ k_) ∨ w.heap.size ≤ k_) ∧ k_ ≠ gb313 ∧ k_ ≠ gb314)) (okp := (fun k_ => ((P1_2_ k_ ∨ P1_3_ k_ ∨ P1_4_ k_) ∨ w.heap.size ≤ k_) ∧ k_ ≠ gb313 ∧ k_ ≠ gb314)) ?hr ?hp (fun _ hk => hk) ((show ∀ k_, wr.heap.size ≤ k_ → (fun k_ => ((P1_2_ k_ ∨ P1_3_ k_ ∨ P1_4_ k_) ∨ w.heap.size ≤ k_) ∧ k_ ≠ gb313 ∧ k_ ≠ gb314) k_ from fun k_ hk => ⟨(.inr (Nat.le_trans (below_size bl) hk)), Kd.freshB (g := gb313) (o := .cells #[.slice A0_0 l0_0.length c0_0, .slice A0_1 l0_1.length c0_1, .slice A0_2 l0_2.length c0_2, .slice A0_3 l0_3.length c0_3, .slice A0_4 l0_4.length c0_4] 27 (0, 0)) (bk BK313.out) k_ hk, Kd.freshB (g := gb314) (o := .cells #[.slice A1_0 l1_0.length c1_0, .slice A1_1 l1_1.length c1_1, .slice A1_2 l1_2.length c1_2, .slice A1_3 l1_3.length c1_3, .slice A1_4 l1_4.length c1_4] 32 (0, 0)) (bk BK314.out) k_ hk⟩) _ (Nat.le_refl _)) (Below.refl _ _) (Nat.le_refl _) (by simp) ?_; (case hd => rfl); (case hg => rfl); (case hr => first | (go_simp; done) | (go_simp; rfl)); (case hp => exact (Reps.one (show Kd.FK (Kd.slice 53 k53) _ _ l1_2 [.slice A1_2 l1_2.length c1_2] from (Kd.FK_slice_mk (Kd.V_reads' (Kd.V_mono (ok' := (fun k_ => ((P1_2_ k_ ∨ P1_3_ k_ ∨ P1_4_ k_) ∨ w.heap.size ≤ k_) ∧ k_ ≠ gb313 ∧ k_ ≠ gb314)) (HO_315002.out) (fun k_ hk => ⟨hk.1, ⟨hk.2.1, hk.2.2⟩⟩))).2.1 (Kd.V_F (Kd.V_mono (ok' := (fun k_ => ((P1_2_ k_ ∨ P1_3_ k_ ∨ P1_4_ k_) ∨ w.heap.size ≤ k_) ∧ k_ ≠ gb313 ∧ k_ ≠ gb314)) (HO_315002.out) (fun k_ hk => ⟨hk.1, ⟨hk.2.1, hk.2.2⟩⟩))))) (Reps.one (show Kd.FK (Kd.slice 53 k53) _ _ l1_3 [.slice A1_3 l1_3.length c1_3] from (Kd.FK_slice_mk (Kd.V_reads' (Kd.V_mono (ok' := (fun k_ => ((P1_2_ k_ ∨ P1_3_ k_ ∨ P1_4_ k_) ∨ w.heap.size ≤ k_) ∧ k_ ≠ gb313 ∧ k_ ≠ gb314)) (HO_315003.out) (fun k_ hk => ⟨hk.1, ⟨hk.2.1, hk.2.2⟩⟩))).2.1 (Kd.V_F (Kd.V_mono (ok' := (fun k_ => ((P1_2_ k_ ∨ P1_3_ k_ ∨ P1_4_ k_) ∨ w.heap.size ≤ k_) ∧ k_ ≠ gb313 ∧ k_ ≠ gb314)) (HO_315003.out) (fun k_ hk => ⟨hk.1, ⟨hk.2.1, hk.2.2⟩⟩))))) (Reps.one (show Kd.FK (Kd.slice 53 k53) _ _ l1_4 [.slice A1_4 l1_4.length c1_4] from (Kd.FK_slice_mk (Kd.V_reads' (Kd.V_mono (ok' := (fun k_ => ((P1_2_ k_ ∨ P1_3_ k_ ∨ P1_4_ k_) ∨ w.heap.size ≤ k_) ∧ k_ ≠ gb313 ∧ k_ ≠ gb314)) (HO_315004.out) (fun k_ hk => ⟨hk.1, ⟨hk.2.1, hk.2.2⟩⟩))).2.1 (Kd.V_F (Kd.V_mono (ok' := (fun k_ => ((P1_2_ k_ ∨ P1_3_ k_ ∨ P1_4_ k_) ∨ w.heap.size ≤ k_) ∧ k_ ≠ gb313 ∧ k_ ≠ gb314)) (HO_315004.out) (fun k_ hk => ⟨hk.1, ⟨hk.2.1, hk.2.2⟩⟩))))) (Reps.none _ _))))); intro v323 w43 ho44 hb hg_ hnew_; clear hg_ hnew_; (first | rw [← Ny322.out] at ho44 | (simp only [Int.reduceToNat] at ho44; rw [← Ny322.out] at ho44)); replace HO_315002 := Aside0.mk (Kd.V_elder' (by (with_reducible repeat (first | apply Kd.V_alloc | apply Kd.V_drewN | apply Kd.V_drew)); exact HO_315002.out) (Kd.N_base ho44) hb); replace HO_315003 := Aside0.mk (Kd.V_elder' (by (with_reducible repeat (first | apply Kd.V_alloc | apply Kd.V_drewN | apply Kd.V_drew)); exact HO_315003.out) (Kd.N_base ho44) hb); replace HO_315004 := Aside0.mk (Kd.V_elder' (by (with_reducible repeat (first | apply Kd.V_alloc | apply Kd.V_drewN | apply Kd.V_drew)); exact HO_315004.out) (Kd.N_base ho44) hb); have HO324 := Aside0.mk (Kd.N_lower ho44 (below_size bl)); replace BK313 := Aside0.mk (bb BK313.out hb); replace BK314 := Aside0.mk (bb BK314.out hb); replace HB := Aside0.mk (below_step bl hb); clear hb ho44; obtain ⟨Ao45, co45, eo45⟩ := Kd.N_slice HO324.out; subst eo45)
      go_loopg [82] k3 (fun kq v82 w' => ∃ (x82_4 : Int), v82 = .int .i64 x82_4 ∧ Aside0 (maskref4_DelaysFault.l2 kq y322 (y322.length : Int) x82_4 l0_0 l0_1 l0_2 l0_3 l0_4 = some r) ∧ Aside0 (kq ≤ k3) ∧ Aside0 (Kd.N (Kd.slice 53 k53) 30 w' w.heap.size (fun k_ => ((P1_2_ k_ ∨ P1_3_ k_ ∨ P1_4_ k_) ∨ w.heap.size ≤ k_) ∧ k_ ≠ gb313 ∧ k_ ≠ gb314) (.slice Ao45 y322.length co45) y322) ∧ Aside0 (Kd.V k53 53 w' w.heap.size (fun k_ => ((P1_2_ k_ ∨ P1_3_ k_ ∨ P1_4_ k_) ∨ w.heap.size ≤ k_) ∧ some k_ ≠ ((.slice Ao45 y322.length co45) : Value).ownBlock ∧ k_ ≠ gb313 ∧ k_ ≠ gb314) (.slice A1_2 l1_2.length c1_2) l1_2) ∧ Aside0 (Kd.V k53 53 w' w.heap.size (fun k_ => ((P1_2_ k_ ∨ P1_3_ k_ ∨ P1_4_ k_) ∨ w.heap.size ≤ k_) ∧ some k_ ≠ ((.slice Ao45 y322.length co45) : Value).ownBlock ∧ k_ ≠ gb313 ∧ k_ ≠ gb314) (.slice A1_3 l1_3.length c1_3) l1_3) ∧ Aside0 (Kd.V k53 53 w' w.heap.size (fun k_ => ((P1_2_ k_ ∨ P1_3_ k_ ∨ P1_4_ k_) ∨ w.heap.size ≤ k_) ∧ some k_ ≠ ((.slice Ao45 y322.length co45) : Value).ownBlock ∧ k_ ≠ gb313 ∧ k_ ≠ gb314) (.slice A1_4 l1_4.length c1_4) l1_4) ∧ Aside0 (w'.heap[gb313]? = some (.cells #[(.slice A0_0 l0_0.length c0_0), (.slice A0_1 l0_1.length c0_1), (.slice A0_2 l0_2.length c0_2), (.slice A0_3 l0_3.length c0_3), (.slice A0_4 l0_4.length c0_4)] 27 (0, 0))) ∧ Aside0 (w'.heap[gb314]? = some (.cells #[(.slice A1_0 l1_0.length c1_0), (.slice A1_1 l1_1.length c1_1), (.slice A1_2 l1_2.length c1_2), (.slice A1_3 l1_3.length c1_3), (.slice A1_4 l1_4.length c1_4)] 32 (0, 0))) ∧ Aside0 (Below w.heap.size w w'))
      case atStart => exact ⟨(0), (by first | rfl | (simp; done) | (simp [*]; done)), H', ⟨Nat.le_refl _⟩, ⟨by (with_reducible repeat (first | apply Kd.N_alloc | apply Kd.N_drewN | apply Kd.N_drew)); exact HO324.out⟩, ⟨by (with_reducible repeat (first | apply Kd.V_alloc | apply Kd.V_drewN | apply Kd.V_drew)); exact Kd.V_mono HO_315002.out (fun _ hk => ⟨hk.1.1, ⟨hk.2, ⟨hk.1.2.1, hk.1.2.2⟩⟩⟩)⟩, ⟨by (with_reducible repeat (first | apply Kd.V_alloc | apply Kd.V_drewN | apply Kd.V_drew)); exact Kd.V_mono HO_315003.out (fun _ hk => ⟨hk.1.1, ⟨hk.2, ⟨hk.1.2.1, hk.1.2.2⟩⟩⟩)⟩, ⟨by (with_reducible repeat (first | apply Kd.V_alloc | apply Kd.V_drewN | apply Kd.V_drew)); exact Kd.V_mono HO_315004.out (fun _ hk => ⟨hk.1.1, ⟨hk.2, ⟨hk.1.2.1, hk.1.2.2⟩⟩⟩)⟩, ⟨bk BK313.out⟩, ⟨bk BK314.out⟩, ⟨bl⟩⟩
      clear H'
      clear c28b0 hcz42_0 hcz42_1 hcz42_2 hcz42_3 hcz42_4 hfz42_0 hfz42_1 hfz42_2 hfz42_3 hfz42_4
      obtain ⟨x82_4, rfl, HA, HK4, HO_80, HO_315002, HO_315003, HO_315004, BK313, BK314, HB⟩ := hrel
      cases gk with
      | zero => exact absurd HA.out (by simp [maskref4_DelaysFault.l2])
      | succ k4 =>
       have H := HA.out
       clear HA
       simp only [maskref4_DelaysFault.l2] at H
       by_cases c46 : x82_4 < (y322.length : Int)
       rotate_left
       · rw [if_neg c46] at H
         have c46b0 : decide (x82_4 < (y322.length : Int)) = false := decide_eq_false c46
         clear c46
         obtain rfl := Option.some.inj H
         go_wp2
         go_ret
         exact ⟨by first | rfl | (simp [errW_none, errW_some] <;> rfl) | (simp [*, errW_none, errW_some] <;> rfl), bl⟩
       rw [if_pos c46] at H
       have c46b0 : decide (x82_4 < (y322.length : Int)) = true := decide_eq_true c46
       clear c46
       by_cases c47 : 0 ≤ x82_4
       rotate_left
       · rw [if_neg c47] at H
         exact absurd H (by simp)
       rw [if_pos c47] at H
       have c47b0 : decide (0 ≤ x82_4) = true := decide_eq_true c47
       clear c47
       by_cases c48 : x82_4 < (y322.length : Int)
       rotate_left
       · rw [if_neg c48] at H
         exact absurd H (by simp)
       rw [if_pos c48] at H
       have c48b0 : decide (x82_4 < (y322.length : Int)) = true := decide_eq_true c48
       clear c48
       by_cases c49 : x82_4 = 0
       rotate_left
       · rw [if_neg c49] at H
         have c49b0 : (x82_4 == 0) = false := beq_eq_false_iff_ne.mpr c49
         replace H := Option.bind_eq_some_iff.mp H
         obtain ⟨t327, A580, H⟩ := H
         replace H : (if t327 = 0 then (maskref4_DelaysFault.l2 k4 y322 (y322.length : Int) (wrap64 (x82_4 + 1)) l0_0 l0_1 l0_2 l0_3 l0_4) else (some t327)) = some r := H
         have A58 := Aside0.mk A580
         clear A580
         by_cases c59 : t327 = 0
         rotate_left
         · rw [if_neg c59] at H
           have c59b1 : (t327 != 0) = true := bne_iff_ne.mpr c59
           obtain rfl := Option.some.inj H
           have p325 : 0 ≤ (x82_4 : Int) := of_decide_eq_true (by first | (with_reducible assumption) | assumption)
           have q325 : x82_4 < (y322.length : Int) := of_decide_eq_true (by first | (with_reducible assumption) | assumption)
           obtain ⟨ad325, A325_0, c325_0, e325, hx325_0, hl325_0, hi325_0⟩ := at_L10 (Kd.N_reads' HO_80.out).2.2 x82_4 p325 q325
           cases e325
           obtain ⟨ce325, hce325, hMe325, hcc325⟩ := Kd.N_get HO_80.out [] x82_4 p325 (by first | exact q325 | exact of_decide_eq_true (by first | (with_reducible assumption) | assumption) | (have e_ := (Kd.N_reads' HO_80.out).1; omega))
           obtain ⟨ua325_0, uc325_0, rfl, ul325_0, ge325_0⟩ := Kd.FK_slice_open hMe325
           have hv325_0 := hcc325 0 _ rfl
           rw [Nat.add_zero, show ((Kd.slice 53 k53)).sz = 1 from rfl, Nat.mul_one] at hv325_0
           replace hv325_0 := Option.some.inj (hv325_0.symm.trans hx325_0)
           injection hv325_0 with hva_ hvn_ hvc_
           rw [hva_] at ge325_0
           rw [hvc_] at ul325_0
           have HL325_0 := Aside0.mk (show Kd.V k53 53 _ w.heap.size _ _ (rd_L10 y322 x82_4) from Kd.V_mk ul325_0 ge325_0)
           clear hva_ hvn_ hvc_ ge325_0 ul325_0
           clear hcc325 hce325
           have HR325_0 := Aside0.mk hi325_0
           have HC325_0 := Aside0.mk hl325_0
           clear hi325_0 hl325_0
           replace p325 := eq_true p325
           replace q325 := eq_true q325
           have hcz64_2 : wr.cell? ⟨gb313, 2, none⟩ = some (.slice A0_2 l0_2.length c0_2) := (blk_cell BK313.out 2).trans rfl
           go_wp2_with ((with_reducible refine gate_callee (f := 28) rfl ?_); refine goesL_ (some 97) rfl rfl Tryd.func28 (by kernel_rfl) rfl #[.slice A325_0 (rd_L10 y322 x82_4).length c325_0, .int .i64 (l0_2.length : Int)] rfl (by (try simp only [List.map_toArray, List.map_cons, List.map_nil]); first | done | rfl | (simp only [List.length_drop, List.length_take]; rfl)) ?_; (with_reducible refine (maskref4_windowsFault.calls k4 _ _ (rd_L10 y322 x82_4) (l0_2.length : Int) t327 _ ?side1 ?side2 A58.out).mono ?_); (case side1 => repeat (first | exact (by repeat (first | (with_reducible exact HR325_0.out) | (with_reducible refine Kd.C_alloc ?_ _) | (with_reducible refine Kd.C_drewN ?_ _) | (with_reducible refine Kd.C_drew ?_) | exact HR325_0.out)) | (with_reducible refine Kd.C_alloc ?_ _) | (with_reducible refine Kd.C_drewN ?_ _) | (with_reducible refine Kd.C_drew ?_))); (case side2 => exact HC325_0.out); rintro e w65 ⟨rfl, hb⟩; refine ⟨_, rfl, ?_⟩; have n0_ := Aside0.mk (Kd.N_below (by (with_reducible repeat (first | apply Kd.N_alloc | apply Kd.N_drewN | apply Kd.N_drew)); exact HO_80.out) hb); have n1_ := Aside0.mk (vb HO_315002.out hb); have n2_ := Aside0.mk (vb HO_315003.out hb); have n3_ := Aside0.mk (vb HO_315004.out hb); have n4_ := Aside0.mk (Kd.V_below (by (with_reducible repeat (first | apply Kd.V_alloc | apply Kd.V_drewN | apply Kd.V_drew)); exact HL325_0.out) hb); have n5_ := Aside0.mk (bb BK313.out hb); have n6_ := Aside0.mk (bb BK314.out hb); have n7_ := Aside0.mk (Kd.C_below (by repeat (first | (with_reducible exact HR325_0.out) | (with_reducible refine Kd.C_alloc ?_ _) | (with_reducible refine Kd.C_drewN ?_ _) | (with_reducible refine Kd.C_drew ?_) | exact HR325_0.out)) hb); have n8_ := Aside0.mk (below_step bl hb); clear HO_80; clear HO_315002; clear HO_315003; clear HO_315004; clear HL325_0; clear BK313; clear BK314; clear HR325_0; clear HB; have HB := n8_; clear n0_ n1_ n2_ n3_ n4_ n5_ n6_ n7_ n8_; (try clear hb))
           go_ret
           exact ⟨by first | rfl | (simp [errW_none, errW_some] <;> rfl) | (simp [*, errW_none, errW_some] <;> rfl), bl⟩
         rw [if_pos c59] at H
         have c59b1 : (t327 != 0) = false := bne_eq_false_iff_eq.mpr c59
         clear c59
         have H' := Aside0.mk H
         clear H
         have p325 : 0 ≤ (x82_4 : Int) := of_decide_eq_true (by first | (with_reducible assumption) | assumption)
         have q325 : x82_4 < (y322.length : Int) := of_decide_eq_true (by first | (with_reducible assumption) | assumption)
         obtain ⟨ad325, A325_0, c325_0, e325, hx325_0, hl325_0, hi325_0⟩ := at_L10 (Kd.N_reads' HO_80.out).2.2 x82_4 p325 q325
         cases e325
         obtain ⟨ce325, hce325, hMe325, hcc325⟩ := Kd.N_get HO_80.out [] x82_4 p325 (by first | exact q325 | exact of_decide_eq_true (by first | (with_reducible assumption) | assumption) | (have e_ := (Kd.N_reads' HO_80.out).1; omega))
         obtain ⟨ua325_0, uc325_0, rfl, ul325_0, ge325_0⟩ := Kd.FK_slice_open hMe325
         have hv325_0 := hcc325 0 _ rfl
         rw [Nat.add_zero, show ((Kd.slice 53 k53)).sz = 1 from rfl, Nat.mul_one] at hv325_0
         replace hv325_0 := Option.some.inj (hv325_0.symm.trans hx325_0)
         injection hv325_0 with hva_ hvn_ hvc_
         rw [hva_] at ge325_0
         rw [hvc_] at ul325_0
         have HL325_0 := Aside0.mk (show Kd.V k53 53 _ w.heap.size _ _ (rd_L10 y322 x82_4) from Kd.V_mk ul325_0 ge325_0)
         clear hva_ hvn_ hvc_ ge325_0 ul325_0
         clear hcc325 hce325
         have HR325_0 := Aside0.mk hi325_0
         have HC325_0 := Aside0.mk hl325_0
         clear hi325_0 hl325_0
         replace p325 := eq_true p325
         replace q325 := eq_true q325
         have hcz61_2 : wr.cell? ⟨gb313, 2, none⟩ = some (.slice A0_2 l0_2.length c0_2) := (blk_cell BK313.out 2).trans rfl
         go_wp2_with ((with_reducible refine gate_callee (f := 28) rfl ?_); refine goesL_ (some 97) rfl rfl Tryd.func28 (by kernel_rfl) rfl #[.slice A325_0 (rd_L10 y322 x82_4).length c325_0, .int .i64 (l0_2.length : Int)] rfl (by (try simp only [List.map_toArray, List.map_cons, List.map_nil]); first | done | rfl | (simp only [List.length_drop, List.length_take]; rfl)) ?_; (with_reducible refine (maskref4_windowsFault.calls k4 _ _ (rd_L10 y322 x82_4) (l0_2.length : Int) t327 _ ?side1 ?side2 A58.out).mono ?_); (case side1 => repeat (first | exact (by repeat (first | (with_reducible exact HR325_0.out) | (with_reducible refine Kd.C_alloc ?_ _) | (with_reducible refine Kd.C_drewN ?_ _) | (with_reducible refine Kd.C_drew ?_) | exact HR325_0.out)) | (with_reducible refine Kd.C_alloc ?_ _) | (with_reducible refine Kd.C_drewN ?_ _) | (with_reducible refine Kd.C_drew ?_))); (case side2 => exact HC325_0.out); rintro e w62 ⟨rfl, hb⟩; refine ⟨_, rfl, ?_⟩; have n0_ := Aside0.mk (Kd.N_below (by (with_reducible repeat (first | apply Kd.N_alloc | apply Kd.N_drewN | apply Kd.N_drew)); exact HO_80.out) hb); have n1_ := Aside0.mk (vb HO_315002.out hb); have n2_ := Aside0.mk (vb HO_315003.out hb); have n3_ := Aside0.mk (vb HO_315004.out hb); have n4_ := Aside0.mk (Kd.V_below (by (with_reducible repeat (first | apply Kd.V_alloc | apply Kd.V_drewN | apply Kd.V_drew)); exact HL325_0.out) hb); have n5_ := Aside0.mk (bb BK313.out hb); have n6_ := Aside0.mk (bb BK314.out hb); have n7_ := Aside0.mk (Kd.C_below (by repeat (first | (with_reducible exact HR325_0.out) | (with_reducible refine Kd.C_alloc ?_ _) | (with_reducible refine Kd.C_drewN ?_ _) | (with_reducible refine Kd.C_drew ?_) | exact HR325_0.out)) hb); have n8_ := Aside0.mk (below_step bl hb); clear HO_80; clear HO_315002; clear HO_315003; clear HO_315004; clear HL325_0; clear BK313; clear BK314; clear HR325_0; clear HB; have HO_80 := n0_; have HO_315002 := n1_; have HO_315003 := n2_; have HO_315004 := n3_; have BK313 := n5_; have BK314 := n6_; have HB := n8_; clear n0_ n1_ n2_ n3_ n4_ n5_ n6_ n7_ n8_; (try clear hb))
         go_roundg k4
         case measure => have := HJ2.out; have := HK2.out; have := HK3.out; have := HK4.out; omega
         case rel => exact ⟨(wrap64 (x82_4 + 1)), (by first | rfl | (simp; done) | (simp [*]; done)), H', ⟨by have := HJ2.out; have := HK2.out; have := HK3.out; have := HK4.out; omega⟩, ⟨by (with_reducible repeat (first | apply Kd.N_alloc | apply Kd.N_drewN | apply Kd.N_drew)); exact HO_80.out⟩, ⟨by (with_reducible repeat (first | apply Kd.V_alloc | apply Kd.V_drewN | apply Kd.V_drew)); exact HO_315002.out⟩, ⟨by (with_reducible repeat (first | apply Kd.V_alloc | apply Kd.V_drewN | apply Kd.V_drew)); exact HO_315003.out⟩, ⟨by (with_reducible repeat (first | apply Kd.V_alloc | apply Kd.V_drewN | apply Kd.V_drew)); exact HO_315004.out⟩, ⟨bk BK313.out⟩, ⟨bk BK314.out⟩, ⟨bl⟩⟩
       rw [if_pos c49] at H
       have c49b0 : (x82_4 == 0) = true := beq_iff_eq.mpr c49
       clear c49
       replace H := Option.bind_eq_some_iff.mp H
       obtain ⟨t326, A500, H⟩ := H
       replace H : (if t326 = 0 then (maskref4_DelaysFault.l2 k4 y322 (y322.length : Int) (wrap64 (x82_4 + 1)) l0_0 l0_1 l0_2 l0_3 l0_4) else (some t326)) = some r := H
       have A50 := Aside0.mk A500
       clear A500
       by_cases c51 : t326 = 0
       rotate_left
       · rw [if_neg c51] at H
         have c51b1 : (t326 != 0) = true := bne_iff_ne.mpr c51
         obtain rfl := Option.some.inj H
         have p325 : 0 ≤ (x82_4 : Int) := of_decide_eq_true (by first | (with_reducible assumption) | assumption)
         have q325 : x82_4 < (y322.length : Int) := of_decide_eq_true (by first | (with_reducible assumption) | assumption)
         obtain ⟨ad325, A325_0, c325_0, e325, hx325_0, hl325_0, hi325_0⟩ := at_L10 (Kd.N_reads' HO_80.out).2.2 x82_4 p325 q325
         cases e325
         obtain ⟨ce325, hce325, hMe325, hcc325⟩ := Kd.N_get HO_80.out [] x82_4 p325 (by first | exact q325 | exact of_decide_eq_true (by first | (with_reducible assumption) | assumption) | (have e_ := (Kd.N_reads' HO_80.out).1; omega))
         obtain ⟨ua325_0, uc325_0, rfl, ul325_0, ge325_0⟩ := Kd.FK_slice_open hMe325
         have hv325_0 := hcc325 0 _ rfl
         rw [Nat.add_zero, show ((Kd.slice 53 k53)).sz = 1 from rfl, Nat.mul_one] at hv325_0
         replace hv325_0 := Option.some.inj (hv325_0.symm.trans hx325_0)
         injection hv325_0 with hva_ hvn_ hvc_
         rw [hva_] at ge325_0
         rw [hvc_] at ul325_0
         have HL325_0 := Aside0.mk (show Kd.V k53 53 _ w.heap.size _ _ (rd_L10 y322 x82_4) from Kd.V_mk ul325_0 ge325_0)
         clear hva_ hvn_ hvc_ ge325_0 ul325_0
         clear hcc325 hce325
         have HR325_0 := Aside0.mk hi325_0
         have HC325_0 := Aside0.mk hl325_0
         clear hi325_0 hl325_0
         replace p325 := eq_true p325
         replace q325 := eq_true q325
         obtain ⟨-, -, hcz56_2, -, hcz56_4, -, -, -, -, -⟩ := bz5 BK313.out
         go_wp2_with ((with_reducible refine gate_callee (f := 28) rfl ?_); refine goesL_ (some 97) rfl rfl Tryd.func28 (by kernel_rfl) rfl #[.slice A325_0 (rd_L10 y322 x82_4).length c325_0, .int .i64 (l0_4.length : Int)] rfl (by (try simp only [List.map_toArray, List.map_cons, List.map_nil]); first | done | rfl | (simp only [List.length_drop, List.length_take]; rfl)) ?_; (with_reducible refine (maskref4_windowsFault.calls k4 _ _ (rd_L10 y322 x82_4) (l0_4.length : Int) t326 _ ?side1 ?side2 A50.out).mono ?_); (case side1 => repeat (first | exact (by repeat (first | (with_reducible exact HR325_0.out) | (with_reducible refine Kd.C_alloc ?_ _) | (with_reducible refine Kd.C_drewN ?_ _) | (with_reducible refine Kd.C_drew ?_) | exact HR325_0.out)) | (with_reducible refine Kd.C_alloc ?_ _) | (with_reducible refine Kd.C_drewN ?_ _) | (with_reducible refine Kd.C_drew ?_))); (case side2 => exact HC325_0.out); rintro e w57 ⟨rfl, hb⟩; refine ⟨_, rfl, ?_⟩; have n0_ := Aside0.mk (Kd.N_below (by (with_reducible repeat (first | apply Kd.N_alloc | apply Kd.N_drewN | apply Kd.N_drew)); exact HO_80.out) hb); have n1_ := Aside0.mk (vb HO_315002.out hb); have n2_ := Aside0.mk (vb HO_315003.out hb); have n3_ := Aside0.mk (vb HO_315004.out hb); have n4_ := Aside0.mk (Kd.V_below (by (with_reducible repeat (first | apply Kd.V_alloc | apply Kd.V_drewN | apply Kd.V_drew)); exact HL325_0.out) hb); have n5_ := Aside0.mk (bb BK313.out hb); have n6_ := Aside0.mk (bb BK314.out hb); have n7_ := Aside0.mk (Kd.C_below (by repeat (first | (with_reducible exact HR325_0.out) | (with_reducible refine Kd.C_alloc ?_ _) | (with_reducible refine Kd.C_drewN ?_ _) | (with_reducible refine Kd.C_drew ?_) | exact HR325_0.out)) hb); have n8_ := Aside0.mk (below_step bl hb); clear HO_80; clear HO_315002; clear HO_315003; clear HO_315004; clear HL325_0; clear BK313; clear BK314; clear HR325_0; clear HB; have HB := n8_; clear n0_ n1_ n2_ n3_ n4_ n5_ n6_ n7_ n8_; (try clear hb))
         go_ret
         exact ⟨by first | rfl | (simp [errW_none, errW_some] <;> rfl) | (simp [*, errW_none, errW_some] <;> rfl), bl⟩
       rw [if_pos c51] at H
       have c51b1 : (t326 != 0) = false := bne_eq_false_iff_eq.mpr c51
       clear c51
       have H' := Aside0.mk H
       clear H
       have p325 : 0 ≤ (x82_4 : Int) := of_decide_eq_true (by first | (with_reducible assumption) | assumption)
       have q325 : x82_4 < (y322.length : Int) := of_decide_eq_true (by first | (with_reducible assumption) | assumption)
       obtain ⟨ad325, A325_0, c325_0, e325, hx325_0, hl325_0, hi325_0⟩ := at_L10 (Kd.N_reads' HO_80.out).2.2 x82_4 p325 q325
       cases e325
       obtain ⟨ce325, hce325, hMe325, hcc325⟩ := Kd.N_get HO_80.out [] x82_4 p325 (by first | exact q325 | exact of_decide_eq_true (by first | (with_reducible assumption) | assumption) | (have e_ := (Kd.N_reads' HO_80.out).1; omega))
       obtain ⟨ua325_0, uc325_0, rfl, ul325_0, ge325_0⟩ := Kd.FK_slice_open hMe325
       have hv325_0 := hcc325 0 _ rfl
       rw [Nat.add_zero, show ((Kd.slice 53 k53)).sz = 1 from rfl, Nat.mul_one] at hv325_0
       replace hv325_0 := Option.some.inj (hv325_0.symm.trans hx325_0)
       injection hv325_0 with hva_ hvn_ hvc_
       rw [hva_] at ge325_0
       rw [hvc_] at ul325_0
       have HL325_0 := Aside0.mk (show Kd.V k53 53 _ w.heap.size _ _ (rd_L10 y322 x82_4) from Kd.V_mk ul325_0 ge325_0)
       clear hva_ hvn_ hvc_ ge325_0 ul325_0
       clear hcc325 hce325
       have HR325_0 := Aside0.mk hi325_0
       have HC325_0 := Aside0.mk hl325_0
       clear hi325_0 hl325_0
       replace p325 := eq_true p325
       replace q325 := eq_true q325
       obtain ⟨-, -, hcz53_2, -, hcz53_4, -, -, -, -, -⟩ := bz5 BK313.out
       go_wp2_with ((with_reducible refine gate_callee (f := 28) rfl ?_); refine goesL_ (some 97) rfl rfl Tryd.func28 (by kernel_rfl) rfl #[.slice A325_0 (rd_L10 y322 x82_4).length c325_0, .int .i64 (l0_4.length : Int)] rfl (by (try simp only [List.map_toArray, List.map_cons, List.map_nil]); first | done | rfl | (simp only [List.length_drop, List.length_take]; rfl)) ?_; (with_reducible refine (maskref4_windowsFault.calls k4 _ _ (rd_L10 y322 x82_4) (l0_4.length : Int) t326 _ ?side1 ?side2 A50.out).mono ?_); (case side1 => repeat (first | exact (by repeat (first | (with_reducible exact HR325_0.out) | (with_reducible refine Kd.C_alloc ?_ _) | (with_reducible refine Kd.C_drewN ?_ _) | (with_reducible refine Kd.C_drew ?_) | exact HR325_0.out)) | (with_reducible refine Kd.C_alloc ?_ _) | (with_reducible refine Kd.C_drewN ?_ _) | (with_reducible refine Kd.C_drew ?_))); (case side2 => exact HC325_0.out); rintro e w54 ⟨rfl, hb⟩; refine ⟨_, rfl, ?_⟩; have n0_ := Aside0.mk (Kd.N_below (by (with_reducible repeat (first | apply Kd.N_alloc | apply Kd.N_drewN | apply Kd.N_drew)); exact HO_80.out) hb); have n1_ := Aside0.mk (vb HO_315002.out hb); have n2_ := Aside0.mk (vb HO_315003.out hb); have n3_ := Aside0.mk (vb HO_315004.out hb); have n4_ := Aside0.mk (Kd.V_below (by (with_reducible repeat (first | apply Kd.V_alloc | apply Kd.V_drewN | apply Kd.V_drew)); exact HL325_0.out) hb); have n5_ := Aside0.mk (bb BK313.out hb); have n6_ := Aside0.mk (bb BK314.out hb); have n7_ := Aside0.mk (Kd.C_below (by repeat (first | (with_reducible exact HR325_0.out) | (with_reducible refine Kd.C_alloc ?_ _) | (with_reducible refine Kd.C_drewN ?_ _) | (with_reducible refine Kd.C_drew ?_) | exact HR325_0.out)) hb); have n8_ := Aside0.mk (below_step bl hb); clear HO_80; clear HO_315002; clear HO_315003; clear HO_315004; clear HL325_0; clear BK313; clear BK314; clear HR325_0; clear HB; have HO_80 := n0_; have HO_315002 := n1_; have HO_315003 := n2_; have HO_315004 := n3_; have BK313 := n5_; have BK314 := n6_; have HB := n8_; clear n0_ n1_ n2_ n3_ n4_ n5_ n6_ n7_ n8_; (try clear hb))
       go_roundg k4
       case measure => have := HJ2.out; have := HK2.out; have := HK3.out; have := HK4.out; omega
       case rel => exact ⟨(wrap64 (x82_4 + 1)), (by first | rfl | (simp; done) | (simp [*]; done)), H', ⟨by have := HJ2.out; have := HK2.out; have := HK3.out; have := HK4.out; omega⟩, ⟨by (with_reducible repeat (first | apply Kd.N_alloc | apply Kd.N_drewN | apply Kd.N_drew)); exact HO_80.out⟩, ⟨by (with_reducible repeat (first | apply Kd.V_alloc | apply Kd.V_drewN | apply Kd.V_drew)); exact HO_315002.out⟩, ⟨by (with_reducible repeat (first | apply Kd.V_alloc | apply Kd.V_drewN | apply Kd.V_drew)); exact HO_315003.out⟩, ⟨by (with_reducible repeat (first | apply Kd.V_alloc | apply Kd.V_drewN | apply Kd.V_drew)); exact HO_315004.out⟩, ⟨bk BK313.out⟩, ⟨bk BK314.out⟩, ⟨bl⟩⟩
    rw [if_pos c28] at H
    have c28b0 : decide (x55_3 < (l0_2.length : Int)) = true := decide_eq_true c28
    clear c28
    by_cases c29 : 0 ≤ x55_3
    rotate_left
    · rw [if_neg c29] at H
      exact absurd H (by simp)
    rw [if_pos c29] at H
    have c29b0 : decide (0 ≤ x55_3) = true := decide_eq_true c29
    clear c29
    by_cases c30 : x55_3 < (l1_1.length : Int)
    rotate_left
    · rw [if_neg c30] at H
      exact absurd H (by simp)
    rw [if_pos c30] at H
    have c30b0 : decide (x55_3 < (l1_1.length : Int)) = true := decide_eq_true c30
    clear c30
    by_cases c31 : x55_3 < (l0_2.length : Int)
    rotate_left
    · rw [if_neg c31] at H
      exact absurd H (by simp)
    rw [if_pos c31] at H
    have c31b0 : decide (x55_3 < (l0_2.length : Int)) = true := decide_eq_true c31
    clear c31
    replace H := Option.bind_eq_some_iff.mp H
    obtain ⟨t320, A320, H⟩ := H
    replace H : ((maskref4_windowsFault.f k3 (rd_L10 l1_1 x55_3) t320).bind fun t321 => (if t321 = 0 then (maskref4_DelaysFault.l1 k3 (l0_2.length : Int) (wrap64 (x55_3 + 1)) l0_0 l0_1 l0_2 l0_3 l0_4 l1_0 l1_1 l1_2 l1_3 l1_4) else (some t321))) = some r := H
    have A32 := Aside0.mk A320
    clear A320
    replace H := Option.bind_eq_some_iff.mp H
    obtain ⟨t321, A330, H⟩ := H
    replace H : (if t321 = 0 then (maskref4_DelaysFault.l1 k3 (l0_2.length : Int) (wrap64 (x55_3 + 1)) l0_0 l0_1 l0_2 l0_3 l0_4 l1_0 l1_1 l1_2 l1_3 l1_4) else (some t321)) = some r := H
    have A33 := Aside0.mk A330
    clear A330
    by_cases c34 : t321 = 0
    rotate_left
    · rw [if_neg c34] at H
      have c34b1 : (t321 != 0) = true := bne_iff_ne.mpr c34
      obtain rfl := Option.some.inj H
      try go_wp2
      have n0_ := Aside0.mk (Kd.V_drew HO_315002.out)
      have n1_ := Aside0.mk (Kd.V_drew HO_315003.out)
      have n2_ := Aside0.mk (Kd.V_drew HO_315004.out)
      have n3_ := Aside0.mk (blk_drew BK313.out)
      have n4_ := Aside0.mk (blk_drew BK314.out)
      have n5_ := Aside0.mk (below_drew1 HB.out)
      clear HO_315002
      clear HO_315003
      clear HO_315004
      clear BK313
      clear BK314
      clear HB
      have HO_315002 := n0_
      have HO_315003 := n1_
      have HO_315004 := n2_
      have BK313 := n3_
      have BK314 := n4_
      have HB := n5_
      clear n0_ n1_ n2_ n3_ n4_ n5_
      have p318 : 0 ≤ (x55_3 : Int) := of_decide_eq_true (by first | (with_reducible assumption) | assumption)
      have q318 : x55_3 < (l1_1.length : Int) := of_decide_eq_true (by first | (with_reducible assumption) | assumption)
      obtain ⟨ad318, A318_0, c318_0, e318, hx318_0, hl318_0, hi318_0⟩ := at_L10 HR1_1.out x55_3 p318 q318
      have hw318_0 := hx318_0
      cases e318
      replace hx318_0 := hc HB.out hx318_0
      have HR318_0 := Aside0.mk hi318_0
      have HC318_0 := Aside0.mk hl318_0
      clear hi318_0 hl318_0
      replace p318 := eq_true p318
      replace q318 := eq_true q318
      have p319 : 0 ≤ (x55_3 : Int) := of_decide_eq_true (by first | (with_reducible assumption) | assumption)
      have q319 : x55_3 < (l0_2.length : Int) := of_decide_eq_true (by first | (with_reducible assumption) | assumption)
      obtain ⟨ad319, e319, hx319_0, hx319_1, hx319_2, hx319_3, hx319_4⟩ := at_T58 HR0_2.out x55_3 p319 q319
      have hw319_4 := hx319_4
      have hw319_3 := hx319_3
      have hw319_2 := hx319_2
      have hw319_1 := hx319_1
      have hw319_0 := hx319_0
      cases e319
      replace hx319_0 := hc HB.out hx319_0
      replace hx319_1 := hc HB.out hx319_1
      replace hx319_2 := hc HB.out hx319_2
      replace hx319_3 := hc HB.out hx319_3
      replace hx319_4 := hc HB.out hx319_4
      replace p319 := eq_true p319
      replace q319 := eq_true q319
      refine start_ (n := 13) (S := fun w' => w'.cell? ⟨gb314, 0, none⟩ = some (.slice A1_0 l1_0.length c1_0) ∧ w'.cell? ⟨gb314, 1, none⟩ = some (.slice (some ad318) l1_1.length c1_1) ∧ w'.cell? ⟨gb314, 2, none⟩ = some (.slice A1_2 l1_2.length c1_2) ∧ w'.cell? ⟨gb314, 3, none⟩ = some (.slice A1_3 l1_3.length c1_3) ∧ w'.cell? ⟨gb314, 4, none⟩ = some (.slice A1_4 l1_4.length c1_4) ∧ w'.cell? ⟨gb313, 0, none⟩ = some (.slice A0_0 l0_0.length c0_0) ∧ w'.cell? ⟨gb313, 1, none⟩ = some (.slice A0_1 l0_1.length c0_1) ∧ w'.cell? ⟨gb313, 2, none⟩ = some (.slice (some ad319) l0_2.length c0_2) ∧ w'.cell? ⟨gb313, 3, none⟩ = some (.slice A0_3 l0_3.length c0_3) ∧ w'.cell? ⟨gb313, 4, none⟩ = some (.slice A0_4 l0_4.length c0_4) ∧ w'.cell? (ad318.add (x55_3).toNat) = some (.slice A318_0 (rd_L10 l1_1 x55_3).length c318_0) ∧ w'.cell? (ad319.add ((x55_3).toNat * 5)) = some (.string ((rd_T58 l0_2 x55_3).f0)) ∧ w'.cell? ⟨(ad319.add ((x55_3).toNat * 5)).block, (ad319.add ((x55_3).toNat * 5)).off + 1, none⟩ = some (.int .i64 ((rd_T58 l0_2 x55_3).f1)) ∧ w'.cell? ⟨(ad319.add ((x55_3).toNat * 5)).block, (ad319.add ((x55_3).toNat * 5)).off + 2, none⟩ = some (.int .i64 ((rd_T58 l0_2 x55_3).f2)) ∧ w'.cell? ⟨(ad319.add ((x55_3).toNat * 5)).block, (ad319.add ((x55_3).toNat * 5)).off + 3, none⟩ = some (.int .i64 ((rd_T58 l0_2 x55_3).f3)) ∧ w'.cell? ⟨(ad319.add ((x55_3).toNat * 5)).block, (ad319.add ((x55_3).toNat * 5)).off + 4, none⟩ = some (.bool ((rd_T58 l0_2 x55_3).f4))) (ds := []) (zb 0 13) (by kernel_rfl) rfl rfl ⟨(blk_cell BK314.out 0).trans rfl, (blk_cell BK314.out 1).trans rfl, (blk_cell BK314.out 2).trans rfl, (blk_cell BK314.out 3).trans rfl, (blk_cell BK314.out 4).trans rfl, (blk_cell BK313.out 0).trans rfl, (blk_cell BK313.out 1).trans rfl, (blk_cell BK313.out 2).trans rfl, (blk_cell BK313.out 3).trans rfl, (blk_cell BK313.out 4).trans rfl, (hc HB.out hw318_0), (hc HB.out hw319_0), (hc HB.out hw319_1), (hc HB.out hw319_2), (hc HB.out hw319_3), (hc HB.out hw319_4)⟩ (fun hHeld => ?_); refine with_tabW maskref4_DelaysFault.tab13 maskref4_DelaysFault.bits13 (fun HT_ HW_ => ?_)
      generalize wr.drew = w38 at HO_315002 HO_315003 HO_315004 BK313 BK314 HB HR318_0 hx318_0 hx319_0 hx319_1 hx319_2 hx319_3 hx319_4 hHeld ⊢
      refine pure_ (i := 0) (N := some 58) (v := ?_) (a' := ?_) (zb 1 12) rfl rfl (any_of HT_.out (by kernel_rfl)) (fun _ _ _ h => h) (Or.inl ⟨by rfl, ?_⟩) ?_ ?_
      rotate_left; focus (intro w'; go_simp; with_reducible rfl)
      rotate_left; focus (simp only [Act.put, z1, z2, z3, i64_w, i32_w]; rfl)
      refine pure_ (i := 2) (N := some 60) (v := ?_) (a' := ?_) #[true,false,true,false,false,false,false,false,false,false,false,false,false] rfl rfl (any_of HT_.out (by kernel_rfl)) (fun _ _ _ h => h) (Or.inl ⟨by rfl, ?_⟩) ?_ ?_
      rotate_left; focus (intro w'; go_simp; with_reducible rfl)
      rotate_left; focus (simp only [Act.put, z1, z2, z3, i64_w, i32_w]; rfl)
      refine pure_ (i := 5) (N := some 63) (v := ?_) (a' := ?_) #[true,false,true,false,false,true,false,false,false,false,false,false,false] rfl rfl (any_of HT_.out (by kernel_rfl)) (fun _ _ _ h => h) (Or.inl ⟨by rfl, ?_⟩) ?_ ?_
      rotate_left; focus (intro w'; go_simp; with_reducible rfl)
      rotate_left; focus (simp only [Act.put, z1, z2, z3, i64_w, i32_w]; rfl)
      refine pure_ (i := 7) (N := some 65) (v := ?_) (a' := ?_) #[true,false,true,false,false,true,false,true,false,false,false,false,false] rfl rfl (any_of HT_.out (by kernel_rfl)) (fun _ _ _ h => h) (Or.inl ⟨by rfl, ?_⟩) ?_ ?_
      rotate_left; focus (intro w'; go_simp; with_reducible rfl)
      rotate_left; focus (simp only [Act.put, z1, z2, z3, i64_w, i32_w]; rfl)
      refine take_ (i := 1) (N := some 59) (v := ?_) (a' := ?_) #[true,true,true,false,false,true,false,true,false,false,false,false,false] rfl rfl (take_ofW HT_.out HW_.out (by kernel_rfl)) (fun _ _ _ h => h) (Or.inl ⟨by rfl, ?_⟩) hHeld ?_ ?_
      rotate_left
      · rintro w' ⟨s0, s1, s2, s3, s4, s5, s6, s7, s8, s9, s10, s11, s12, s13, s14, s15⟩
        go_simp
        with_reducible rfl
      rotate_left; focus (simp only [Act.put, z1, z2, z3, i64_w, i32_w]; rfl)
      refine pure_ (i := 3) (N := some 61) (v := ?_) (a' := ?_) #[true,true,true,true,false,true,false,true,false,false,false,false,false] rfl rfl (any_of HT_.out (by kernel_rfl)) (fun _ _ _ h => h) (Or.inl ⟨by rfl, ?_⟩) ?_ ?_
      rotate_left; focus (intro w'; go_simp; with_reducible rfl)
      rotate_left; focus (simp only [Act.put, z1, z2, z3, i64_w, i32_w]; rfl)
      refine take_ (i := 4) (N := some 62) (v := ?_) (a' := ?_) #[true,true,true,true,true,true,false,true,false,false,false,false,false] rfl rfl (take_ofW HT_.out HW_.out (by kernel_rfl)) (fun _ _ _ h => h) (Or.inl ⟨by rfl, ?_⟩) hHeld ?_ ?_
      rotate_left
      · rintro w' ⟨s0, s1, s2, s3, s4, s5, s6, s7, s8, s9, s10, s11, s12, s13, s14, s15⟩
        go_simp
        with_reducible rfl
      rotate_left; focus (simp only [Act.put, z1, z2, z3, i64_w, i32_w]; rfl)
      refine take_ (i := 6) (N := some 64) (v := ?_) (a' := ?_) (zb 8 5) rfl rfl (take_ofW HT_.out HW_.out (by kernel_rfl)) (fun _ _ _ h => h) (Or.inl ⟨by rfl, ?_⟩) hHeld ?_ ?_
      rotate_left
      · rintro w' ⟨s0, s1, s2, s3, s4, s5, s6, s7, s8, s9, s10, s11, s12, s13, s14, s15⟩
        go_simp
        with_reducible rfl
      rotate_left; focus (simp only [Act.put, z1, z2, z3, i64_w, i32_w]; rfl)
      refine pure_ (i := 8) (N := some 66) (v := ?_) (a' := ?_) (zb 9 4) rfl rfl (any_of HT_.out (by kernel_rfl)) (fun _ _ _ h => h) (Or.inl ⟨by rfl, ?_⟩) ?_ ?_
      rotate_left; focus (intro w'; go_simp; with_reducible rfl)
      rotate_left; focus (simp only [Act.put, z1, z2, z3, i64_w, i32_w]; rfl)
      refine take_ (i := 9) (N := some 67) (v := ?_) (a' := ?_) (zb 10 3) rfl rfl (take_ofW HT_.out HW_.out (by kernel_rfl)) (fun _ _ _ h => h) (Or.inl ⟨by rfl, ?_⟩) hHeld ?_ ?_
      rotate_left
      · rintro w' ⟨s0, s1, s2, s3, s4, s5, s6, s7, s8, s9, s10, s11, s12, s13, s14, s15⟩
        go_simp
        with_reducible rfl
      rotate_left; focus (simp only [Act.put, z1, z2, z3, i64_w, i32_w]; rfl)
      refine one_ (i := 10) (N := some 68) (zb 11 2) rfl rfl (one_of HT_.out (by kernel_rfl)) (by decide) (fun K hK => ?_)
      refine goes_ Tryd.func18 (by kernel_rfl) rfl #[.agg #[.string ((rd_T58 l0_2 x55_3).f0), .int .i64 ((rd_T58 l0_2 x55_3).f1), .int .i64 ((rd_T58 l0_2 x55_3).f2), .int .i64 ((rd_T58 l0_2 x55_3).f3), .bool ((rd_T58 l0_2 x55_3).f4)]] (by rfl) rfl rfl (by (try simp only [List.map_toArray, List.map_cons, List.map_nil]); first | done | rfl | (simp only [List.length_drop, List.length_take]; rfl)) ?_
      with_reducible refine (maskref4_Takes.calls ((rd_T58 l0_2 x55_3).f0) ((rd_T58 l0_2 x55_3).f1) ((rd_T58 l0_2 x55_3).f2) ((rd_T58 l0_2 x55_3).f3) ((rd_T58 l0_2 x55_3).f4) t320 _ A32.out).mono ?_
      rintro e w39 ⟨rfl, hb⟩
      refine ⟨_, rfl, ?_⟩
      have n0_ := Aside0.mk (vb HO_315002.out hb)
      have n1_ := Aside0.mk (vb HO_315003.out hb)
      have n2_ := Aside0.mk (vb HO_315004.out hb)
      have n3_ := Aside0.mk (bb BK313.out hb)
      have n4_ := Aside0.mk (bb BK314.out hb)
      have n5_ := Aside0.mk (below_step bl hb)
      clear HO_315002
      clear HO_315003
      clear HO_315004
      clear BK313
      clear BK314
      clear HB
      have HO_315002 := n0_
      have HO_315003 := n1_
      have HO_315004 := n2_
      have BK313 := n3_
      have BK314 := n4_
      have HB := n5_
      clear n0_ n1_ n2_ n3_ n4_ n5_
      (try clear hb)
      (try clear hb2)
      (try clear hk)
      (try clear hi)
      refine hK.out _ _ ⟨(blk_cell BK314.out 0).trans rfl, (blk_cell BK314.out 1).trans rfl, (blk_cell BK314.out 2).trans rfl, (blk_cell BK314.out 3).trans rfl, (blk_cell BK314.out 4).trans rfl, (blk_cell BK313.out 0).trans rfl, (blk_cell BK313.out 1).trans rfl, (blk_cell BK313.out 2).trans rfl, (blk_cell BK313.out 3).trans rfl, (blk_cell BK313.out 4).trans rfl, (hc HB.out hw318_0), (hc HB.out hw319_0), (hc HB.out hw319_1), (hc HB.out hw319_2), (hc HB.out hw319_3), (hc HB.out hw319_4)⟩ (fun hHeld => ?_)
      clear hK K
      refine norm_ (a' := ?_) ?_ ?_
      rotate_left; focus (show Act.put _ (some 68) _ = _; simp only [Act.put, z1, z2, z3, i64_w, i32_w]; rfl)
      refine one_ (i := 11) (N := some 69) (zb 12 1) rfl rfl (one_of HT_.out (by kernel_rfl)) (by decide) (fun K hK => ?_)
      refine goes_ Tryd.func28 (by kernel_rfl) rfl #[.slice A318_0 (rd_L10 l1_1 x55_3).length c318_0, .int .i64 t320] (by rfl) rfl rfl (by (try simp only [List.map_toArray, List.map_cons, List.map_nil]); first | done | rfl | (simp only [List.length_drop, List.length_take]; rfl)) ?_
      with_reducible refine (maskref4_windowsFault.calls k3 _ _ (rd_L10 l1_1 x55_3) t320 t321 _ ?side1 ?side2 A33.out).mono ?_
      (case side1 => exact kc (Kd.C_below HR318_0.out HB.out))
      (case side2 => exact HC318_0.out)
      rintro e w40 ⟨rfl, hb⟩
      refine ⟨_, rfl, ?_⟩
      have n0_ := Aside0.mk (vb HO_315002.out hb)
      have n1_ := Aside0.mk (vb HO_315003.out hb)
      have n2_ := Aside0.mk (vb HO_315004.out hb)
      have n3_ := Aside0.mk (bb BK313.out hb)
      have n4_ := Aside0.mk (bb BK314.out hb)
      have n5_ := Aside0.mk (below_step bl hb)
      clear HO_315002
      clear HO_315003
      clear HO_315004
      clear BK313
      clear BK314
      clear HB
      have BK313 := n3_
      have BK314 := n4_
      have HB := n5_
      clear n0_ n1_ n2_ n3_ n4_ n5_
      (try clear hb)
      (try clear hb2)
      (try clear hk)
      (try clear hi)
      refine hK.out _ _ ⟨(blk_cell BK314.out 0).trans rfl, (blk_cell BK314.out 1).trans rfl, (blk_cell BK314.out 2).trans rfl, (blk_cell BK314.out 3).trans rfl, (blk_cell BK314.out 4).trans rfl, (blk_cell BK313.out 0).trans rfl, (blk_cell BK313.out 1).trans rfl, (blk_cell BK313.out 2).trans rfl, (blk_cell BK313.out 3).trans rfl, (blk_cell BK313.out 4).trans rfl, (hc HB.out hw318_0), (hc HB.out hw319_0), (hc HB.out hw319_1), (hc HB.out hw319_2), (hc HB.out hw319_3), (hc HB.out hw319_4)⟩ (fun hHeld => ?_)
      clear hK K
      refine norm_ (a' := ?_) ?_ ?_
      rotate_left; focus (show Act.put _ (some 69) _ = _; simp only [Act.put, z1, z2, z3, i64_w, i32_w]; rfl)
      refine pure_ (i := 12) (N := some 8) (v := ?_) (a' := ?_) (zb 13 0) rfl rfl (any_of HT_.out (by kernel_rfl)) (fun _ _ _ h => h) (Or.inl ⟨by rfl, ?_⟩) ?_ ?_
      rotate_left; focus (intro w'; go_simp; with_reducible rfl)
      rotate_left; focus (simp only [Act.put, z1, z2, z3, i64_w, i32_w]; rfl)
      refine done_ (done_of HT_.out (by kernel_rfl)) ?_
      try go_wp2
      go_ret
      exact ⟨by first | rfl | (simp [errW_none, errW_some] <;> rfl) | (simp [*, errW_none, errW_some] <;> rfl), bl⟩
    rw [if_pos c34] at H
    have c34b1 : (t321 != 0) = false := bne_eq_false_iff_eq.mpr c34
    clear c34
    have H' := Aside0.mk H
    clear H
    try go_wp2
    have n0_ := Aside0.mk (Kd.V_drew HO_315002.out)
    have n1_ := Aside0.mk (Kd.V_drew HO_315003.out)
    have n2_ := Aside0.mk (Kd.V_drew HO_315004.out)
    have n3_ := Aside0.mk (blk_drew BK313.out)
    have n4_ := Aside0.mk (blk_drew BK314.out)
    have n5_ := Aside0.mk (below_drew1 HB.out)
    clear HO_315002
    clear HO_315003
    clear HO_315004
    clear BK313
    clear BK314
    clear HB
    have HO_315002 := n0_
    have HO_315003 := n1_
    have HO_315004 := n2_
    have BK313 := n3_
    have BK314 := n4_
    have HB := n5_
    clear n0_ n1_ n2_ n3_ n4_ n5_
    have p318 : 0 ≤ (x55_3 : Int) := of_decide_eq_true (by first | (with_reducible assumption) | assumption)
    have q318 : x55_3 < (l1_1.length : Int) := of_decide_eq_true (by first | (with_reducible assumption) | assumption)
    obtain ⟨ad318, A318_0, c318_0, e318, hx318_0, hl318_0, hi318_0⟩ := at_L10 HR1_1.out x55_3 p318 q318
    have hw318_0 := hx318_0
    cases e318
    replace hx318_0 := hc HB.out hx318_0
    have HR318_0 := Aside0.mk hi318_0
    have HC318_0 := Aside0.mk hl318_0
    clear hi318_0 hl318_0
    replace p318 := eq_true p318
    replace q318 := eq_true q318
    have p319 : 0 ≤ (x55_3 : Int) := of_decide_eq_true (by first | (with_reducible assumption) | assumption)
    have q319 : x55_3 < (l0_2.length : Int) := of_decide_eq_true (by first | (with_reducible assumption) | assumption)
    obtain ⟨ad319, e319, hx319_0, hx319_1, hx319_2, hx319_3, hx319_4⟩ := at_T58 HR0_2.out x55_3 p319 q319
    have hw319_4 := hx319_4
    have hw319_3 := hx319_3
    have hw319_2 := hx319_2
    have hw319_1 := hx319_1
    have hw319_0 := hx319_0
    cases e319
    replace hx319_0 := hc HB.out hx319_0
    replace hx319_1 := hc HB.out hx319_1
    replace hx319_2 := hc HB.out hx319_2
    replace hx319_3 := hc HB.out hx319_3
    replace hx319_4 := hc HB.out hx319_4
    replace p319 := eq_true p319
    replace q319 := eq_true q319
    refine start_ (n := 13) (S := fun w' => w'.cell? ⟨gb314, 0, none⟩ = some (.slice A1_0 l1_0.length c1_0) ∧ w'.cell? ⟨gb314, 1, none⟩ = some (.slice (some ad318) l1_1.length c1_1) ∧ w'.cell? ⟨gb314, 2, none⟩ = some (.slice A1_2 l1_2.length c1_2) ∧ w'.cell? ⟨gb314, 3, none⟩ = some (.slice A1_3 l1_3.length c1_3) ∧ w'.cell? ⟨gb314, 4, none⟩ = some (.slice A1_4 l1_4.length c1_4) ∧ w'.cell? ⟨gb313, 0, none⟩ = some (.slice A0_0 l0_0.length c0_0) ∧ w'.cell? ⟨gb313, 1, none⟩ = some (.slice A0_1 l0_1.length c0_1) ∧ w'.cell? ⟨gb313, 2, none⟩ = some (.slice (some ad319) l0_2.length c0_2) ∧ w'.cell? ⟨gb313, 3, none⟩ = some (.slice A0_3 l0_3.length c0_3) ∧ w'.cell? ⟨gb313, 4, none⟩ = some (.slice A0_4 l0_4.length c0_4) ∧ w'.cell? (ad318.add (x55_3).toNat) = some (.slice A318_0 (rd_L10 l1_1 x55_3).length c318_0) ∧ w'.cell? (ad319.add ((x55_3).toNat * 5)) = some (.string ((rd_T58 l0_2 x55_3).f0)) ∧ w'.cell? ⟨(ad319.add ((x55_3).toNat * 5)).block, (ad319.add ((x55_3).toNat * 5)).off + 1, none⟩ = some (.int .i64 ((rd_T58 l0_2 x55_3).f1)) ∧ w'.cell? ⟨(ad319.add ((x55_3).toNat * 5)).block, (ad319.add ((x55_3).toNat * 5)).off + 2, none⟩ = some (.int .i64 ((rd_T58 l0_2 x55_3).f2)) ∧ w'.cell? ⟨(ad319.add ((x55_3).toNat * 5)).block, (ad319.add ((x55_3).toNat * 5)).off + 3, none⟩ = some (.int .i64 ((rd_T58 l0_2 x55_3).f3)) ∧ w'.cell? ⟨(ad319.add ((x55_3).toNat * 5)).block, (ad319.add ((x55_3).toNat * 5)).off + 4, none⟩ = some (.bool ((rd_T58 l0_2 x55_3).f4))) (ds := []) (zb 0 13) (by kernel_rfl) rfl rfl ⟨(blk_cell BK314.out 0).trans rfl, (blk_cell BK314.out 1).trans rfl, (blk_cell BK314.out 2).trans rfl, (blk_cell BK314.out 3).trans rfl, (blk_cell BK314.out 4).trans rfl, (blk_cell BK313.out 0).trans rfl, (blk_cell BK313.out 1).trans rfl, (blk_cell BK313.out 2).trans rfl, (blk_cell BK313.out 3).trans rfl, (blk_cell BK313.out 4).trans rfl, (hc HB.out hw318_0), (hc HB.out hw319_0), (hc HB.out hw319_1), (hc HB.out hw319_2), (hc HB.out hw319_3), (hc HB.out hw319_4)⟩ (fun hHeld => ?_); refine with_tabW maskref4_DelaysFault.tab13 maskref4_DelaysFault.bits13 (fun HT_ HW_ => ?_)
    generalize wr.drew = w35 at HO_315002 HO_315003 HO_315004 BK313 BK314 HB HR318_0 hx318_0 hx319_0 hx319_1 hx319_2 hx319_3 hx319_4 hHeld ⊢
    refine pure_ (i := 0) (N := some 58) (v := ?_) (a' := ?_) (zb 1 12) rfl rfl (any_of HT_.out (by kernel_rfl)) (fun _ _ _ h => h) (Or.inl ⟨by rfl, ?_⟩) ?_ ?_
    rotate_left; focus (intro w'; go_simp; with_reducible rfl)
    rotate_left; focus (simp only [Act.put, z1, z2, z3, i64_w, i32_w]; rfl)
    refine pure_ (i := 2) (N := some 60) (v := ?_) (a' := ?_) #[true,false,true,false,false,false,false,false,false,false,false,false,false] rfl rfl (any_of HT_.out (by kernel_rfl)) (fun _ _ _ h => h) (Or.inl ⟨by rfl, ?_⟩) ?_ ?_
    rotate_left; focus (intro w'; go_simp; with_reducible rfl)
    rotate_left; focus (simp only [Act.put, z1, z2, z3, i64_w, i32_w]; rfl)
    refine pure_ (i := 5) (N := some 63) (v := ?_) (a' := ?_) #[true,false,true,false,false,true,false,false,false,false,false,false,false] rfl rfl (any_of HT_.out (by kernel_rfl)) (fun _ _ _ h => h) (Or.inl ⟨by rfl, ?_⟩) ?_ ?_
    rotate_left; focus (intro w'; go_simp; with_reducible rfl)
    rotate_left; focus (simp only [Act.put, z1, z2, z3, i64_w, i32_w]; rfl)
    refine pure_ (i := 7) (N := some 65) (v := ?_) (a' := ?_) #[true,false,true,false,false,true,false,true,false,false,false,false,false] rfl rfl (any_of HT_.out (by kernel_rfl)) (fun _ _ _ h => h) (Or.inl ⟨by rfl, ?_⟩) ?_ ?_
    rotate_left; focus (intro w'; go_simp; with_reducible rfl)
    rotate_left; focus (simp only [Act.put, z1, z2, z3, i64_w, i32_w]; rfl)
    refine take_ (i := 1) (N := some 59) (v := ?_) (a' := ?_) #[true,true,true,false,false,true,false,true,false,false,false,false,false] rfl rfl (take_ofW HT_.out HW_.out (by kernel_rfl)) (fun _ _ _ h => h) (Or.inl ⟨by rfl, ?_⟩) hHeld ?_ ?_
    rotate_left
    · rintro w' ⟨s0, s1, s2, s3, s4, s5, s6, s7, s8, s9, s10, s11, s12, s13, s14, s15⟩
      go_simp
      with_reducible rfl
    rotate_left; focus (simp only [Act.put, z1, z2, z3, i64_w, i32_w]; rfl)
    refine pure_ (i := 3) (N := some 61) (v := ?_) (a' := ?_) #[true,true,true,true,false,true,false,true,false,false,false,false,false] rfl rfl (any_of HT_.out (by kernel_rfl)) (fun _ _ _ h => h) (Or.inl ⟨by rfl, ?_⟩) ?_ ?_
    rotate_left; focus (intro w'; go_simp; with_reducible rfl)
    rotate_left; focus (simp only [Act.put, z1, z2, z3, i64_w, i32_w]; rfl)
    refine take_ (i := 4) (N := some 62) (v := ?_) (a' := ?_) #[true,true,true,true,true,true,false,true,false,false,false,false,false] rfl rfl (take_ofW HT_.out HW_.out (by kernel_rfl)) (fun _ _ _ h => h) (Or.inl ⟨by rfl, ?_⟩) hHeld ?_ ?_
    rotate_left
    · rintro w' ⟨s0, s1, s2, s3, s4, s5, s6, s7, s8, s9, s10, s11, s12, s13, s14, s15⟩
      go_simp
      with_reducible rfl
    rotate_left; focus (simp only [Act.put, z1, z2, z3, i64_w, i32_w]; rfl)
    refine take_ (i := 6) (N := some 64) (v := ?_) (a' := ?_) (zb 8 5) rfl rfl (take_ofW HT_.out HW_.out (by kernel_rfl)) (fun _ _ _ h => h) (Or.inl ⟨by rfl, ?_⟩) hHeld ?_ ?_
    rotate_left
    · rintro w' ⟨s0, s1, s2, s3, s4, s5, s6, s7, s8, s9, s10, s11, s12, s13, s14, s15⟩
      go_simp
      with_reducible rfl
    rotate_left; focus (simp only [Act.put, z1, z2, z3, i64_w, i32_w]; rfl)
    refine pure_ (i := 8) (N := some 66) (v := ?_) (a' := ?_) (zb 9 4) rfl rfl (any_of HT_.out (by kernel_rfl)) (fun _ _ _ h => h) (Or.inl ⟨by rfl, ?_⟩) ?_ ?_
    rotate_left; focus (intro w'; go_simp; with_reducible rfl)
    rotate_left; focus (simp only [Act.put, z1, z2, z3, i64_w, i32_w]; rfl)
    refine take_ (i := 9) (N := some 67) (v := ?_) (a' := ?_) (zb 10 3) rfl rfl (take_ofW HT_.out HW_.out (by kernel_rfl)) (fun _ _ _ h => h) (Or.inl ⟨by rfl, ?_⟩) hHeld ?_ ?_
    rotate_left
    · rintro w' ⟨s0, s1, s2, s3, s4, s5, s6, s7, s8, s9, s10, s11, s12, s13, s14, s15⟩
      go_simp
      with_reducible rfl
    rotate_left; focus (simp only [Act.put, z1, z2, z3, i64_w, i32_w]; rfl)
    refine one_ (i := 10) (N := some 68) (zb 11 2) rfl rfl (one_of HT_.out (by kernel_rfl)) (by decide) (fun K hK => ?_)
    refine goes_ Tryd.func18 (by kernel_rfl) rfl #[.agg #[.string ((rd_T58 l0_2 x55_3).f0), .int .i64 ((rd_T58 l0_2 x55_3).f1), .int .i64 ((rd_T58 l0_2 x55_3).f2), .int .i64 ((rd_T58 l0_2 x55_3).f3), .bool ((rd_T58 l0_2 x55_3).f4)]] (by rfl) rfl rfl (by (try simp only [List.map_toArray, List.map_cons, List.map_nil]); first | done | rfl | (simp only [List.length_drop, List.length_take]; rfl)) ?_
    with_reducible refine (maskref4_Takes.calls ((rd_T58 l0_2 x55_3).f0) ((rd_T58 l0_2 x55_3).f1) ((rd_T58 l0_2 x55_3).f2) ((rd_T58 l0_2 x55_3).f3) ((rd_T58 l0_2 x55_3).f4) t320 _ A32.out).mono ?_
    rintro e w36 ⟨rfl, hb⟩
    refine ⟨_, rfl, ?_⟩
    have n0_ := Aside0.mk (vb HO_315002.out hb)
    have n1_ := Aside0.mk (vb HO_315003.out hb)
    have n2_ := Aside0.mk (vb HO_315004.out hb)
    have n3_ := Aside0.mk (bb BK313.out hb)
    have n4_ := Aside0.mk (bb BK314.out hb)
    have n5_ := Aside0.mk (below_step bl hb)
    clear HO_315002
    clear HO_315003
    clear HO_315004
    clear BK313
    clear BK314
    clear HB
    have HO_315002 := n0_
    have HO_315003 := n1_
    have HO_315004 := n2_
    have BK313 := n3_
    have BK314 := n4_
    have HB := n5_
    clear n0_ n1_ n2_ n3_ n4_ n5_
    (try clear hb)
    (try clear hb2)
    (try clear hk)
    (try clear hi)
    refine hK.out _ _ ⟨(blk_cell BK314.out 0).trans rfl, (blk_cell BK314.out 1).trans rfl, (blk_cell BK314.out 2).trans rfl, (blk_cell BK314.out 3).trans rfl, (blk_cell BK314.out 4).trans rfl, (blk_cell BK313.out 0).trans rfl, (blk_cell BK313.out 1).trans rfl, (blk_cell BK313.out 2).trans rfl, (blk_cell BK313.out 3).trans rfl, (blk_cell BK313.out 4).trans rfl, (hc HB.out hw318_0), (hc HB.out hw319_0), (hc HB.out hw319_1), (hc HB.out hw319_2), (hc HB.out hw319_3), (hc HB.out hw319_4)⟩ (fun hHeld => ?_)
    clear hK K
    refine norm_ (a' := ?_) ?_ ?_
    rotate_left; focus (show Act.put _ (some 68) _ = _; simp only [Act.put, z1, z2, z3, i64_w, i32_w]; rfl)
    refine one_ (i := 11) (N := some 69) (zb 12 1) rfl rfl (one_of HT_.out (by kernel_rfl)) (by decide) (fun K hK => ?_)
    refine goes_ Tryd.func28 (by kernel_rfl) rfl #[.slice A318_0 (rd_L10 l1_1 x55_3).length c318_0, .int .i64 t320] (by rfl) rfl rfl (by (try simp only [List.map_toArray, List.map_cons, List.map_nil]); first | done | rfl | (simp only [List.length_drop, List.length_take]; rfl)) ?_
    with_reducible refine (maskref4_windowsFault.calls k3 _ _ (rd_L10 l1_1 x55_3) t320 t321 _ ?side1 ?side2 A33.out).mono ?_
    (case side1 => exact kc (Kd.C_below HR318_0.out HB.out))
    (case side2 => exact HC318_0.out)
    rintro e w37 ⟨rfl, hb⟩
    refine ⟨_, rfl, ?_⟩
    have n0_ := Aside0.mk (vb HO_315002.out hb)
    have n1_ := Aside0.mk (vb HO_315003.out hb)
    have n2_ := Aside0.mk (vb HO_315004.out hb)
    have n3_ := Aside0.mk (bb BK313.out hb)
    have n4_ := Aside0.mk (bb BK314.out hb)
    have n5_ := Aside0.mk (below_step bl hb)
    clear HO_315002
    clear HO_315003
    clear HO_315004
    clear BK313
    clear BK314
    clear HB
    have HO_315002 := n0_
    have HO_315003 := n1_
    have HO_315004 := n2_
    have BK313 := n3_
    have BK314 := n4_
    have HB := n5_
    clear n0_ n1_ n2_ n3_ n4_ n5_
    (try clear hb)
    (try clear hb2)
    (try clear hk)
    (try clear hi)
    refine hK.out _ _ ⟨(blk_cell BK314.out 0).trans rfl, (blk_cell BK314.out 1).trans rfl, (blk_cell BK314.out 2).trans rfl, (blk_cell BK314.out 3).trans rfl, (blk_cell BK314.out 4).trans rfl, (blk_cell BK313.out 0).trans rfl, (blk_cell BK313.out 1).trans rfl, (blk_cell BK313.out 2).trans rfl, (blk_cell BK313.out 3).trans rfl, (blk_cell BK313.out 4).trans rfl, (hc HB.out hw318_0), (hc HB.out hw319_0), (hc HB.out hw319_1), (hc HB.out hw319_2), (hc HB.out hw319_3), (hc HB.out hw319_4)⟩ (fun hHeld => ?_)
    clear hK K
    refine norm_ (a' := ?_) ?_ ?_
    rotate_left; focus (show Act.put _ (some 69) _ = _; simp only [Act.put, z1, z2, z3, i64_w, i32_w]; rfl)
    refine pure_ (i := 12) (N := some 8) (v := ?_) (a' := ?_) (zb 13 0) rfl rfl (any_of HT_.out (by kernel_rfl)) (fun _ _ _ h => h) (Or.inl ⟨by rfl, ?_⟩) ?_ ?_
    rotate_left; focus (intro w'; go_simp; with_reducible rfl)
    rotate_left; focus (simp only [Act.put, z1, z2, z3, i64_w, i32_w]; rfl)
    refine done_ (done_of HT_.out (by kernel_rfl)) ?_
    try go_wp2
    go_roundg k3
    case measure => have := HJ2.out; have := HK2.out; have := HK3.out; omega
    case rel => exact ⟨(wrap64 (x55_3 + 1)), (by first | rfl | (simp; done) | (simp [*]; done)), H', ⟨by have := HJ2.out; have := HK2.out; have := HK3.out; omega⟩, ⟨by (with_reducible repeat (first | apply Kd.V_alloc | apply Kd.V_drewN | apply Kd.V_drew)); exact HO_315002.out⟩, ⟨by (with_reducible repeat (first | apply Kd.V_alloc | apply Kd.V_drewN | apply Kd.V_drew)); exact HO_315003.out⟩, ⟨by (with_reducible repeat (first | apply Kd.V_alloc | apply Kd.V_drewN | apply Kd.V_drew)); exact HO_315004.out⟩, ⟨bk BK313.out⟩, ⟨bk BK314.out⟩, ⟨bl⟩⟩

end Go.Proofs.YtlegjcagkmjfjaaDoor.PT
