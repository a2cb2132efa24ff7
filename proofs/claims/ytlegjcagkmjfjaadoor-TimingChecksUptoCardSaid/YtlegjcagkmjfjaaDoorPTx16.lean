-- PRINTED by print.py (a twelfth state) out of the translation. Not trusted: Lean checks it.
import Derived.Test.YtlegjcagkmjfjaaDoorCmp
import Derived.Test.YtlegjcagkmjfjaaDoorPTx0
import Derived.Test.YtlegjcagkmjfjaaDoorPTx15
namespace Go.Proofs.YtlegjcagkmjfjaaDoor.PT
open Go.RowKit Go.Proofs.YtlegjcagkmjfjaaDoorW.PrintWords Go.Proofs.YtlegjcagkmjfjaaDoorW.PrintLast Go.Proofs.YtlegjcagkmjfjaaDoorW.PrintMore
attribute [local go_sem] max2_int min2_int max_two min_two max_three min_three max_four min_four   -- for this text's walks alone
private theorem z1 {α : Type} {l : List α} {i : Nat} {a : α} : l.toArray.setIfInBounds i a = (l.set i a).toArray := List.setIfInBounds_toArray _ _ _
private theorem z2 {α : Type} {x : α} {xs : List α} {a : α} : (x :: xs).set 0 a = a :: xs := List.set_cons_zero
private theorem z3 {α : Type} {x : α} {xs : List α} {n : Nat} {a : α} : (x :: xs).set (n + 1) a = x :: xs.set n a := List.set_cons_succ
private abbrev zb (n m : Nat) : Array Bool := (List.replicate n true ++ List.replicate m false).toArray
set_option linter.unusedVariables false
set_option linter.unusedSimpArgs false

/-! ### delay_Check: function 13 -/
mutual
def delay_Check.j0 : Nat → Bool → List ByteArray → List ByteArray → List (S58) → List (S72) → List Int → List (List (S53)) → List (List (S53)) → List (S53) → List (S53) → List (S53) → Option (Int)
 | 0, _, _, _, _, _, _, _, _, _, _, _ => none
 | k + 1, x28, x147000, x147001, x147002, x147003, x147004, x148000, x148001, x148002, x148003, x148004 => if x28 = true then (some 4) else (delay_Check.l0 k x147003 (x147003.length : Int) 0 x147000 x147001 x147002 x147003 x147004 x148000 x148001 x148002 x148003 x148004)
def delay_Check.l0 : Nat → List (S72) → Int → Int → List ByteArray → List ByteArray → List (S58) → List (S72) → List Int → List (List (S53)) → List (List (S53)) → List (S53) → List (S53) → List (S53) → Option (Int)
 | 0, _, _, _, _, _, _, _, _, _, _, _, _, _ => none
 | k + 1, x30, x31, x32, x147000, x147001, x147002, x147003, x147004, x148000, x148001, x148002, x148003, x148004 => if x32 < x31 then (if 0 ≤ x32 then (if x32 < (x30.length : Int) then (if x32 < (x148000.length : Int) then ((delay_all.f k (rd_L10 x148000 x32) (((rd_T72 x30 x32).f2).length : Int)).bind fun t151 => (if t151 = 0 then (delay_Check.l0 k x30 x31 (wrap64 (x32 + 1)) x147000 x147001 x147002 x147003 x147004 x148000 x148001 x148002 x148003 x148004) else (some t151))) else (none)) else (none)) else (none)) else (delay_Check.l1 k x147002 (x147002.length : Int) 0 x147000 x147001 x147002 x147003 x147004 x148000 x148001 x148002 x148003 x148004)
def delay_Check.l1 : Nat → List (S58) → Int → Int → List ByteArray → List ByteArray → List (S58) → List (S72) → List Int → List (List (S53)) → List (List (S53)) → List (S53) → List (S53) → List (S53) → Option (Int)
 | 0, _, _, _, _, _, _, _, _, _, _, _, _, _ => none
 | k + 1, x51, x52, x53, x147000, x147001, x147002, x147003, x147004, x148000, x148001, x148002, x148003, x148004 => if x53 < x52 then (if 0 ≤ x53 then (if x53 < (x51.length : Int) then (if x53 < (x148001.length : Int) then ((delay_Inputs.f ((rd_T58 x51 x53).f0) ((rd_T58 x51 x53).f1) ((rd_T58 x51 x53).f2) ((rd_T58 x51 x53).f3) ((rd_T58 x51 x53).f4)).bind fun t155 => ((delay_all.f k (rd_L10 x148001 x53) t155).bind fun t156 => (if t156 = 0 then (delay_Check.l1 k x51 x52 (wrap64 (x53 + 1)) x147000 x147001 x147002 x147003 x147004 x148000 x148001 x148002 x148003 x148004) else (some t156)))) else (none)) else (none)) else (none)) else ((delay_all.f k x148002 (x147004.length : Int)).bind fun t157 => (if t157 = 0 then ((delay_all.f k x148003 (x147002.length : Int)).bind fun t158 => (if t158 = 0 then ((delay_all.f k x148004 (x147002.length : Int)).bind fun t159 => (some t159)) else (some t158))) else (some t157)))
end
def delay_Check.f (k : Nat) (l0_0 : List ByteArray) (l0_1 : List ByteArray) (l0_2 : List (S58)) (l0_3 : List (S72)) (l0_4 : List Int) (l1_0 : List (List (S53))) (l1_1 : List (List (S53))) (l1_2 : List (S53)) (l1_3 : List (S53)) (l1_4 : List (S53)) : Option (Int) := if (l1_0.length : Int) = (l0_3.length : Int) then (delay_Check.j0 k ((l1_1.length : Int) != (l0_2.length : Int)) l0_0 l0_1 l0_2 l0_3 l0_4 l1_0 l1_1 l1_2 l1_3 l1_4) else (delay_Check.j0 k true l0_0 l0_1 l0_2 l0_3 l0_4 l1_0 l1_1 l1_2 l1_3 l1_4)
theorem delay_Check.mono_l : ∀ k, (∀ y0 y1 y2 y3 y4 y5 y6 y7 y8 y9 y10, LeO (delay_Check.j0 k y0 y1 y2 y3 y4 y5 y6 y7 y8 y9 y10) (delay_Check.j0 (k + 1) y0 y1 y2 y3 y4 y5 y6 y7 y8 y9 y10)) ∧ (∀ y0 y1 y2 y3 y4 y5 y6 y7 y8 y9 y10 y11 y12, LeO (delay_Check.l0 k y0 y1 y2 y3 y4 y5 y6 y7 y8 y9 y10 y11 y12) (delay_Check.l0 (k + 1) y0 y1 y2 y3 y4 y5 y6 y7 y8 y9 y10 y11 y12)) ∧ (∀ y0 y1 y2 y3 y4 y5 y6 y7 y8 y9 y10 y11 y12, LeO (delay_Check.l1 k y0 y1 y2 y3 y4 y5 y6 y7 y8 y9 y10 y11 y12) (delay_Check.l1 (k + 1) y0 y1 y2 y3 y4 y5 y6 y7 y8 y9 y10 y11 y12))
 | 0 => ⟨fun _ _ _ _ _ _ _ _ _ _ _ r h => by simp [delay_Check.j0] at h, fun _ _ _ _ _ _ _ _ _ _ _ _ _ r h => by simp [delay_Check.l0] at h, fun _ _ _ _ _ _ _ _ _ _ _ _ _ r h => by simp [delay_Check.l1] at h⟩
 | k + 1 => by
  obtain ⟨ih0, ih1, ih2⟩ := delay_Check.mono_l k
  refine ⟨?_, ?_, ?_⟩
  · intro y0 y1 y2 y3 y4 y5 y6 y7 y8 y9 y10
    unfold delay_Check.j0
    repeat' first
    | (with_reducible exact ih1 _ _ _ _ _ _ _ _ _ _ _ _ _)
    | (with_reducible exact LeO.refl _)
    | (with_reducible exact LeO.none _)
    | (with_reducible refine LeO.ite ?_ ?_)
    | (with_reducible refine LeO.bind ?_ (fun _ => ?_))
  · intro y0 y1 y2 y3 y4 y5 y6 y7 y8 y9 y10 y11 y12
    unfold delay_Check.l0
    repeat' first
    | (with_reducible exact ih1 _ _ _ _ _ _ _ _ _ _ _ _ _)
    | (with_reducible exact ih2 _ _ _ _ _ _ _ _ _ _ _ _ _)
    | (with_reducible exact delay_all.mono _ _ _)
    | (with_reducible exact LeO.refl _)
    | (with_reducible exact LeO.none _)
    | (with_reducible refine LeO.ite ?_ ?_)
    | (with_reducible refine LeO.bind ?_ (fun _ => ?_))
  · intro y0 y1 y2 y3 y4 y5 y6 y7 y8 y9 y10 y11 y12
    unfold delay_Check.l1
    repeat' first
    | (with_reducible exact ih2 _ _ _ _ _ _ _ _ _ _ _ _ _)
    | (with_reducible exact delay_all.mono _ _ _)
    | (with_reducible exact LeO.refl _)
    | (with_reducible exact LeO.none _)
    | (with_reducible refine LeO.ite ?_ ?_)
    | (with_reducible refine LeO.bind ?_ (fun _ => ?_))
theorem delay_Check.mono : ∀ a0 a1 a2 a3 a4 a5 a6 a7 a8 a9 k, LeO (delay_Check.f k a0 a1 a2 a3 a4 a5 a6 a7 a8 a9) (delay_Check.f (k + 1) a0 a1 a2 a3 a4 a5 a6 a7 a8 a9) := by
 intro a0 a1 a2 a3 a4 a5 a6 a7 a8 a9 k
 obtain ⟨ih0, ih1, ih2⟩ := delay_Check.mono_l k
 unfold delay_Check.f
 repeat' first
  | (with_reducible exact ih0 _ _ _ _ _ _ _ _ _ _ _)
  | (with_reducible exact LeO.refl _)
  | (with_reducible exact LeO.none _)
  | (with_reducible refine LeO.ite ?_ ?_)
  | (with_reducible refine LeO.bind ?_ (fun _ => ?_))
def delay_Check.T6 : Bool × List (List Nat × List Nat) := (true, [([], []), ([0], [0]), ([], []), ([1, 2], [1, 2]), ([3], [3]), ([], []), ([5], [5]), ([6], [6]), ([4, 7], [4, 7]), ([8, 8, 0, 1, 2, 3, 4, 5, 6, 7, 8], [8])])
def delay_Check.B6 : List Nat := [0, 1, 0, 7, 15, 0, 32, 96, 255, 511]
theorem delay_Check.tab6 : rtab .any (opsOf Tryd.f13 6) = delay_Check.T6 := by kernel_rfl
theorem delay_Check.bits6 : waitsOk delay_Check.T6.2 delay_Check.B6 = true := by kernel_rfl
def delay_Check.T13 : Bool × List (List Nat × List Nat) := (true, [([], []), ([0], [0]), ([], []), ([1, 2], [1, 2]), ([3], [3]), ([], []), ([5], [5]), ([4, 6, 6], [4, 6]), ([7, 7, 0, 1, 2, 3, 4, 5, 6, 7], [7])])
def delay_Check.B13 : List Nat := [0, 1, 0, 7, 15, 0, 32, 127, 255]
theorem delay_Check.tab13 : rtab .any (opsOf Tryd.f13 13) = delay_Check.T13 := by kernel_rfl
theorem delay_Check.bits13 : waitsOk delay_Check.T13.2 delay_Check.B13 = true := by kernel_rfl
set_option maxHeartbeats 8000000 in
set_option maxRecDepth 100000 in
theorem delay_Check.calls (k : Nat) (A0_0 : Option Addr) (c0_0 : Nat) (l0_0 : List ByteArray) (A0_1 : Option Addr) (c0_1 : Nat) (l0_1 : List ByteArray) (A0_2 : Option Addr) (c0_2 : Nat) (l0_2 : List (S58)) (A0_3 : Option Addr) (c0_3 : Nat) (l0_3 : List (S72)) (A0_4 : Option Addr) (c0_4 : Nat) (l0_4 : List Int) (A1_0 : Option Addr) (c1_0 : Nat) (l1_0 : List (List (S53))) (A1_1 : Option Addr) (c1_1 : Nat) (l1_1 : List (List (S53))) (A1_2 : Option Addr) (c1_2 : Nat) (l1_2 : List (S53)) (A1_3 : Option Addr) (c1_3 : Nat) (l1_3 : List (S53)) (A1_4 : Option Addr) (c1_4 : Nat) (l1_4 : List (S53)) (r : Int) (w : World) (hr0_0 : Kd.C Kd.string w A0_0 l0_0.length l0_0) (hc0_0 : l0_0.length ≤ c0_0) (hr0_1 : Kd.C Kd.string w A0_1 l0_1.length l0_1) (hc0_1 : l0_1.length ≤ c0_1) (hr0_2 : Kd.C k58 w A0_2 l0_2.length l0_2) (hc0_2 : l0_2.length ≤ c0_2) (hr0_3 : Kd.C k72 w A0_3 l0_3.length l0_3) (hc0_3 : l0_3.length ≤ c0_3) (hr0_4 : Kd.C (Kd.int .i64) w A0_4 l0_4.length l0_4) (hc0_4 : l0_4.length ≤ c0_4) (hr1_0 : Kd.C (Kd.slice 53 k53) w A1_0 l1_0.length l1_0) (hc1_0 : l1_0.length ≤ c1_0) (hr1_1 : Kd.C (Kd.slice 53 k53) w A1_1 l1_1.length l1_1) (hc1_1 : l1_1.length ≤ c1_1) (hr1_2 : Kd.C k53 w A1_2 l1_2.length l1_2) (hc1_2 : l1_2.length ≤ c1_2) (hr1_3 : Kd.C k53 w A1_3 l1_3.length l1_3) (hc1_3 : l1_3.length ≤ c1_3) (hr1_4 : Kd.C k53 w A1_4 l1_4.length l1_4) (hc1_4 : l1_4.length ≤ c1_4) (h : delay_Check.f k l0_0 l0_1 l0_2 l0_3 l0_4 l1_0 l1_1 l1_2 l1_3 l1_4 = some r) :
 Calls Tryd.prog 13 #[.agg #[.slice A0_0 l0_0.length c0_0, .slice A0_1 l0_1.length c0_1, .slice A0_2 l0_2.length c0_2, .slice A0_3 l0_3.length c0_3, .slice A0_4 l0_4.length c0_4], .agg #[.slice A1_0 l1_0.length c1_0, .slice A1_1 l1_1.length c1_1, .slice A1_2 l1_2.length c1_2, .slice A1_3 l1_3.length c1_3, .slice A1_4 l1_4.length c1_4]] w fun e w' => e = .returned (.int .i64 r) ∧ Below w.heap.size w w' := by
 clear hr0_0 hc0_0
 clear hr0_1 hc0_1
 have HR0_2 := Aside0.mk hr0_2
 clear hr0_2 hc0_2
 have HR0_3 := Aside0.mk hr0_3
 clear hr0_3 hc0_3
 clear hr0_4 hc0_4
 have HR1_0 := Aside0.mk hr1_0
 clear hr1_0 hc1_0
 have HR1_1 := Aside0.mk hr1_1
 clear hr1_1 hc1_1
 have HR1_2 := Aside0.mk hr1_2
 have HC1_2 := Aside0.mk hc1_2
 clear hr1_2 hc1_2
 have HR1_3 := Aside0.mk hr1_3
 have HC1_3 := Aside0.mk hc1_3
 clear hr1_3 hc1_3
 have HR1_4 := Aside0.mk hr1_4
 have HC1_4 := Aside0.mk hc1_4
 clear hr1_4 hc1_4
 have HB := Aside0.mk (Below.refl w.heap.size w)
 have H : (if (l1_0.length : Int) = (l0_3.length : Int) then (delay_Check.j0 k ((l1_1.length : Int) != (l0_2.length : Int)) l0_0 l0_1 l0_2 l0_3 l0_4 l1_0 l1_1 l1_2 l1_3 l1_4) else (delay_Check.j0 k true l0_0 l0_1 l0_2 l0_3 l0_4 l1_0 l1_1 l1_2 l1_3 l1_4)) = some r := h
 clear h
 have HC3 := Aside0.mk H
 clear H
 go_enter Tryd.func13, Tryd.ntmps13
 go_upto_region 1 with (first | ((with_reducible refine gate_dst (N := 2) rfl ?_); (try (refine gate_guard (by rfl) ?_; dsimp only)); refine box_event ?hg (N := 2) ?hd (cs := #[.slice A0_0 l0_0.length c0_0, .slice A0_1 l0_1.length c0_1, .slice A0_2 l0_2.length c0_2, .slice A0_3 l0_3.length c0_3, .slice A0_4 l0_4.length c0_4]) (t := 27) ?hr ?_; (case hd => rfl); (case hg => rfl); (case hr => first | (go_simp; done) | (go_simp; rfl)); intro gb146 hg w4 hbox hb; have n0_ := Aside0.mk (below_step bl hb); have n1_ := Aside0.mk (hbox); have n2_ := Aside0.mk (ge (w := w) hg); have n3_ := Aside0.mk (ge (w := w) hg); clear HB; have HB := n0_; have BK146 := n1_; have GE146 := n3_; clear n0_ n1_ n2_ n3_; clear hb hbox hg) | ((with_reducible refine gate_dst (N := 3) rfl ?_); (try (refine gate_guard (by rfl) ?_; dsimp only)); refine box_event ?hg (N := 3) ?hd (cs := #[.slice A1_0 l1_0.length c1_0, .slice A1_1 l1_1.length c1_1, .slice A1_2 l1_2.length c1_2, .slice A1_3 l1_3.length c1_3, .slice A1_4 l1_4.length c1_4]) (t := 32) ?hr ?_; (case hd => rfl); (case hg => rfl); (case hr => first | (go_simp; done) | (go_simp; rfl)); intro gb147 hg w5 hbox hb; have n0_ := Aside0.mk (bb BK146.out hb); have n1_ := Aside0.mk (below_step bl hb); have n2_ := Aside0.mk (hbox); have n3_ := Aside0.mk (ge (w := w) hg); have n4_ := Aside0.mk (ge (w := w) hg); have n5_ := Aside0.mk (nl hg (bk BK146.out)); have n6_ := Aside0.mk (ng hg (bk BK146.out)); clear BK146; clear HB; have BK146 := n0_; have HB := n1_; have BK147 := n2_; have GE147 := n4_; have NB146_147 := n5_; have NB147_146 := n6_; clear n0_ n1_ n2_ n3_ n4_ n5_ n6_; clear hb hbox hg))
 (try simp only [Act.put, z1, z2, z3])
 go_cut [28] (fun v28 wc => ∃ (kq : Nat) (x28_2 : Bool), v28 = .bool x28_2 ∧ Aside0 (delay_Check.j0 kq x28_2 l0_0 l0_1 l0_2 l0_3 l0_4 l1_0 l1_1 l1_2 l1_3 l1_4 = some r) ∧ Aside0 (kq ≤ k) ∧ Aside0 (wc.heap[gb146]? = some (.cells #[(.slice A0_0 l0_0.length c0_0), (.slice A0_1 l0_1.length c0_1), (.slice A0_2 l0_2.length c0_2), (.slice A0_3 l0_3.length c0_3), (.slice A0_4 l0_4.length c0_4)] 27 (0, 0))) ∧ Aside0 (wc.heap[gb147]? = some (.cells #[(.slice A1_0 l1_0.length c1_0), (.slice A1_1 l1_1.length c1_1), (.slice A1_2 l1_2.length c1_2), (.slice A1_3 l1_3.length c1_3), (.slice A1_4 l1_4.length c1_4)] 32 (0, 0))) ∧ Aside0 (Below w.heap.size w wc))
 case first =>
  have H := HC3.out
  clear HC3
  by_cases c6 : (l1_0.length : Int) = (l0_3.length : Int)
  rotate_left
  · rw [if_neg c6] at H
    have c6b0 : ((l1_0.length : Int) == (l0_3.length : Int)) = false := beq_eq_false_iff_ne.mpr c6
    have c6b1 : ((l1_0.length : Int) != (l0_3.length : Int)) = true := bne_iff_ne.mpr c6
    (first | rw [c6b0] | (simp only [i64_w, i32_w]; rw [c6b0]) | skip)
    have H' := Aside0.mk H
    clear H
    obtain ⟨hcz11_0, -⟩ := bz1 BK147.out
    obtain ⟨-, -, -, hcz12_3, -, -, -, -⟩ := bz4 BK146.out
    go_wp2
    go_meet
    case rel => exact ⟨_, (true), (by first | rfl | (simp; done) | (simp [*]; done)), H', ⟨by first | omega | exact Nat.le_refl _⟩, ⟨bk BK146.out⟩, ⟨bk BK147.out⟩, ⟨bl⟩⟩
  rw [if_pos c6] at H
  have c6b0 : ((l1_0.length : Int) == (l0_3.length : Int)) = true := beq_iff_eq.mpr c6
  have c6b1 : ((l1_0.length : Int) != (l0_3.length : Int)) = false := bne_eq_false_iff_eq.mpr c6
  clear c6
  (first | rw [c6b0] | (simp only [i64_w, i32_w]; rw [c6b0]) | skip)
  have H' := Aside0.mk H
  clear H
  obtain ⟨hcz8_0, hcz8_1, -, -⟩ := bz2 BK147.out
  obtain ⟨-, -, hcz9_2, hcz9_3, -, -, -, -⟩ := bz4 BK146.out
  go_wp2
  go_meet
  case rel => exact ⟨_, (((l1_1.length : Int) != (l0_2.length : Int))), (by first | rfl | (simp; done) | (simp [*]; done)), H', ⟨by first | omega | exact Nat.le_refl _⟩, ⟨bk BK146.out⟩, ⟨bk BK147.out⟩, ⟨bl⟩⟩
 clear HC3
 obtain ⟨kq, x28_2, rfl, HA, HJ2, BK146, BK147, HB⟩ := hcut
 cases kq with
 | zero => exact absurd HA.out (by simp [delay_Check.j0])
 | succ kj2 =>
  have H := HA.out
  clear HA
  simp only [delay_Check.j0] at H
  by_cases c13 : x28_2 = true
  · subst c13
    have H1 : (some 4) = some r := by rw [if_pos rfl] at H; exact H
    clear H
    have H := H1
    clear H1
    obtain rfl := Option.some.inj H
    go_wp2
    go_ret
    exact ⟨by first | rfl | (simp [errW_none, errW_some] <;> rfl) | (simp [*, errW_none, errW_some] <;> rfl), bl⟩
  replace c13 := Bool.eq_false_iff.mpr c13
  subst c13
  have H1 : (delay_Check.l0 kj2 l0_3 (l0_3.length : Int) 0 l0_0 l0_1 l0_2 l0_3 l0_4 l1_0 l1_1 l1_2 l1_3 l1_4) = some r := by rw [if_neg (show ¬ (false = true) by decide)] at H; exact H
  clear H
  have H := H1
  clear H1
  have H' := Aside0.mk H
  clear H
  obtain ⟨hcz15_0, hcz15_1, hcz15_2, hcz15_3, hcz15_4, hfz15_0, hfz15_1, hfz15_2, hfz15_3, hfz15_4⟩ := bz5 BK146.out
  go_wp2
  go_loopg [32] kj2 (fun kq v32 w' => ∃ (x32_2 : Int), v32 = .int .i64 x32_2 ∧ Aside0 (delay_Check.l0 kq l0_3 (l0_3.length : Int) x32_2 l0_0 l0_1 l0_2 l0_3 l0_4 l1_0 l1_1 l1_2 l1_3 l1_4 = some r) ∧ Aside0 (kq ≤ kj2) ∧ Aside0 (w'.heap[gb146]? = some (.cells #[(.slice A0_0 l0_0.length c0_0), (.slice A0_1 l0_1.length c0_1), (.slice A0_2 l0_2.length c0_2), (.slice A0_3 l0_3.length c0_3), (.slice A0_4 l0_4.length c0_4)] 27 (0, 0))) ∧ Aside0 (w'.heap[gb147]? = some (.cells #[(.slice A1_0 l1_0.length c1_0), (.slice A1_1 l1_1.length c1_1), (.slice A1_2 l1_2.length c1_2), (.slice A1_3 l1_3.length c1_3), (.slice A1_4 l1_4.length c1_4)] 32 (0, 0))) ∧ Aside0 (Below w.heap.size w w'))
  case atStart => exact ⟨(0), (by first | rfl | (simp; done) | (simp [*]; done)), H', ⟨Nat.le_refl _⟩, ⟨bk BK146.out⟩, ⟨bk BK147.out⟩, ⟨bl⟩⟩
  clear H'
  clear hcz15_0 hcz15_1 hcz15_2 hcz15_3 hcz15_4 hfz15_0 hfz15_1 hfz15_2 hfz15_3 hfz15_4
  obtain ⟨x32_2, rfl, HA, HK2, BK146, BK147, HB⟩ := hrel
  cases gk with
  | zero => exact absurd HA.out (by simp [delay_Check.l0])
  | succ k2 =>
   have H := HA.out
   clear HA
   simp only [delay_Check.l0] at H
   by_cases c16 : x32_2 < (l0_3.length : Int)
   · rw [if_pos c16] at H
     have c16b0 : decide (x32_2 < (l0_3.length : Int)) = true := decide_eq_true c16
     clear c16
     by_cases c17 : 0 ≤ x32_2
     rotate_left
     · rw [if_neg c17] at H
       exact absurd H (by simp)
     rw [if_pos c17] at H
     have c17b0 : decide (0 ≤ x32_2) = true := decide_eq_true c17
     clear c17
     by_cases c18 : x32_2 < (l0_3.length : Int)
     rotate_left
     · rw [if_neg c18] at H
       exact absurd H (by simp)
     rw [if_pos c18] at H
     have c18b0 : decide (x32_2 < (l0_3.length : Int)) = true := decide_eq_true c18
     clear c18
     by_cases c19 : x32_2 < (l1_0.length : Int)
     rotate_left
     · rw [if_neg c19] at H
       exact absurd H (by simp)
     rw [if_pos c19] at H
     have c19b0 : decide (x32_2 < (l1_0.length : Int)) = true := decide_eq_true c19
     clear c19
     replace H := Option.bind_eq_some_iff.mp H
     obtain ⟨t151, A200, H⟩ := H
     replace H : (if t151 = 0 then (delay_Check.l0 k2 l0_3 (l0_3.length : Int) (wrap64 (x32_2 + 1)) l0_0 l0_1 l0_2 l0_3 l0_4 l1_0 l1_1 l1_2 l1_3 l1_4) else (some t151)) = some r := H
     have A20 := Aside0.mk A200
     clear A200
     by_cases c21 : t151 = 0
     rotate_left
     · rw [if_neg c21] at H
       have c21b1 : (t151 != 0) = true := bne_iff_ne.mpr c21
       obtain rfl := Option.some.inj H
       have p148 : 0 ≤ (x32_2 : Int) := of_decide_eq_true (by first | (with_reducible assumption) | assumption)
       have q148 : x32_2 < (l0_3.length : Int) := of_decide_eq_true (by first | (with_reducible assumption) | assumption)
       obtain ⟨ad148, A148_2, c148_2, e148, hx148_0, hx148_1, hx148_2, hl148_2, hi148_2⟩ := at_T72 HR0_3.out x32_2 p148 q148
       cases e148
       replace hx148_0 := hc HB.out hx148_0
       replace hx148_1 := hc HB.out hx148_1
       replace hx148_2 := hc HB.out hx148_2
       clear hi148_2 hl148_2
       replace p148 := eq_true p148
       replace q148 := eq_true q148
       try go_wp2_with ((with_reducible refine gate_dst (N := 6) rfl ?_); (try (refine gate_guard (by rfl) ?_; dsimp only)); refine box_event ?hg (N := 6) ?hd (cs := #[.int .i64 0, .int .u64 0, .slice none 0 0]) (t := 72) ?hr ?_; (case hd => rfl); (case hg => rfl); (case hr => first | (go_simp; done) | (go_simp; rfl)); intro gb149 hg w29 hbox hb; have n0_ := Aside0.mk (bb BK146.out hb); have n1_ := Aside0.mk (bb BK147.out hb); have n2_ := Aside0.mk (below_step bl hb); have n3_ := Aside0.mk (hbox); have n4_ := Aside0.mk (ge (w := w) hg); have n5_ := Aside0.mk (ge (w := w) hg); have n6_ := Aside0.mk (nl hg (bk BK146.out)); have n7_ := Aside0.mk (ng hg (bk BK146.out)); have n8_ := Aside0.mk (nl hg (bk BK147.out)); have n9_ := Aside0.mk (ng hg (bk BK147.out)); clear BK146; clear BK147; clear HB; have BK146 := n0_; have BK147 := n1_; have HB := n2_; have BK149 := n3_; have GE149 := n5_; have NB146_149 := n6_; have NB149_146 := n7_; have NB147_149 := n8_; have NB149_147 := n9_; clear n0_ n1_ n2_ n3_ n4_ n5_ n6_ n7_ n8_ n9_; clear hb hbox hg; obtain ⟨hcz32_0, hcz32_1, hcz32_2, hfz32_0, hfz32_1, hfz32_2⟩ := bz3 BK149.out)
       have n0_ : Aside0 ((((w29.setCell ⟨gb149, 0, none⟩ (.int .i64 ((rd_T72 l0_3 x32_2).f0))).setCell ⟨gb149, 1, none⟩ (.int .u64 ((rd_T72 l0_3 x32_2).f1))).setCell ⟨gb149, 2, none⟩ (.slice A148_2 ((rd_T72 l0_3 x32_2).f2).length c148_2)).heap[gb146]? = some (.cells #[.slice A0_0 l0_0.length c0_0, .slice A0_1 l0_1.length c0_1, .slice A0_2 l0_2.length c0_2, .slice (some ad148) l0_3.length c0_3, .slice A0_4 l0_4.length c0_4] 27 (0, 0))) := ⟨bf BK146.out⟩
       have n1_ : Aside0 ((((w29.setCell ⟨gb149, 0, none⟩ (.int .i64 ((rd_T72 l0_3 x32_2).f0))).setCell ⟨gb149, 1, none⟩ (.int .u64 ((rd_T72 l0_3 x32_2).f1))).setCell ⟨gb149, 2, none⟩ (.slice A148_2 ((rd_T72 l0_3 x32_2).f2).length c148_2)).heap[gb147]? = some (.cells #[.slice A1_0 l1_0.length c1_0, .slice A1_1 l1_1.length c1_1, .slice A1_2 l1_2.length c1_2, .slice A1_3 l1_3.length c1_3, .slice A1_4 l1_4.length c1_4] 32 (0, 0))) := ⟨bf BK147.out⟩
       have n2_ : Aside0 ((((w29.setCell ⟨gb149, 0, none⟩ (.int .i64 ((rd_T72 l0_3 x32_2).f0))).setCell ⟨gb149, 1, none⟩ (.int .u64 ((rd_T72 l0_3 x32_2).f1))).setCell ⟨gb149, 2, none⟩ (.slice A148_2 ((rd_T72 l0_3 x32_2).f2).length c148_2)).heap[gb149]? = some (.cells #[.int .i64 ((rd_T72 l0_3 x32_2).f0), .int .u64 ((rd_T72 l0_3 x32_2).f1), .slice A148_2 ((rd_T72 l0_3 x32_2).f2).length c148_2] 72 (0, 0))) := ⟨by (with_reducible repeat (first | refine blk_drewN ?_ _ | refine blk_drew ?_ | refine blk_alloc ?_ _)); refine blk_put (cs := #[.int .i64 ((rd_T72 l0_3 x32_2).f0), .int .u64 ((rd_T72 l0_3 x32_2).f1), .slice none 0 0]) ?_ 2 _ rfl; (with_reducible repeat (first | refine blk_drewN ?_ _ | refine blk_drew ?_ | refine blk_alloc ?_ _)); refine blk_put (cs := #[.int .i64 ((rd_T72 l0_3 x32_2).f0), .int .u64 0, .slice none 0 0]) ?_ 1 _ rfl; (with_reducible repeat (first | refine blk_drewN ?_ _ | refine blk_drew ?_ | refine blk_alloc ?_ _)); refine blk_put (cs := #[.int .i64 0, .int .u64 0, .slice none 0 0]) ?_ 0 _ rfl; (with_reducible repeat (first | refine blk_drewN ?_ _ | refine blk_drew ?_ | refine blk_alloc ?_ _)); exact BK149.out⟩
       have n3_ : Aside0 (Below w.heap.size w (((w29.setCell ⟨gb149, 0, none⟩ (.int .i64 ((rd_T72 l0_3 x32_2).f0))).setCell ⟨gb149, 1, none⟩ (.int .u64 ((rd_T72 l0_3 x32_2).f1))).setCell ⟨gb149, 2, none⟩ (.slice A148_2 ((rd_T72 l0_3 x32_2).f2).length c148_2))) := ⟨bl⟩
       (try clear BK146)
       (try clear BK147)
       (try clear BK149)
       (try clear HB)
       generalize (((w29.setCell ⟨gb149, 0, none⟩ (.int .i64 ((rd_T72 l0_3 x32_2).f0))).setCell ⟨gb149, 1, none⟩ (.int .u64 ((rd_T72 l0_3 x32_2).f1))).setCell ⟨gb149, 2, none⟩ (.slice A148_2 ((rd_T72 l0_3 x32_2).f2).length c148_2)) = w33 at n0_ n1_ n2_ n3_ ⊢
       have BK146 := n0_
       have BK147 := n1_
       have BK149 := n2_
       have HB := n3_
       clear n0_ n1_ n2_ n3_
       have n0_ := Aside0.mk (blk_drew BK146.out)
       have n1_ := Aside0.mk (blk_drew BK147.out)
       have n2_ := Aside0.mk (blk_drew BK149.out)
       have n3_ := Aside0.mk (below_drew1 HB.out)
       clear BK146
       clear BK147
       clear BK149
       clear HB
       have BK146 := n0_
       have BK147 := n1_
       have BK149 := n2_
       have HB := n3_
       clear n0_ n1_ n2_ n3_
       have p150 : 0 ≤ (x32_2 : Int) := of_decide_eq_true (by first | (with_reducible assumption) | assumption)
       have q150 : x32_2 < (l1_0.length : Int) := of_decide_eq_true (by first | (with_reducible assumption) | assumption)
       obtain ⟨ad150, A150_0, c150_0, e150, hx150_0, hl150_0, hi150_0⟩ := at_L10 HR1_0.out x32_2 p150 q150
       have hw150_0 := hx150_0
       cases e150
       replace hx150_0 := hc HB.out hx150_0
       have HR150_0 := Aside0.mk hi150_0
       have HC150_0 := Aside0.mk hl150_0
       clear hi150_0 hl150_0
       replace p150 := eq_true p150
       replace q150 := eq_true q150
       refine start_ (n := 10) (S := fun w' => w'.cell? ⟨gb147, 0, none⟩ = some (.slice (some ad150) l1_0.length c1_0) ∧ w'.cell? ⟨gb147, 1, none⟩ = some (.slice A1_1 l1_1.length c1_1) ∧ w'.cell? ⟨gb147, 2, none⟩ = some (.slice A1_2 l1_2.length c1_2) ∧ w'.cell? ⟨gb147, 3, none⟩ = some (.slice A1_3 l1_3.length c1_3) ∧ w'.cell? ⟨gb147, 4, none⟩ = some (.slice A1_4 l1_4.length c1_4) ∧ w'.cell? ⟨gb149, 0, none⟩ = some (.int .i64 ((rd_T72 l0_3 x32_2).f0)) ∧ w'.cell? ⟨gb149, 1, none⟩ = some (.int .u64 ((rd_T72 l0_3 x32_2).f1)) ∧ w'.cell? ⟨gb149, 2, none⟩ = some (.slice A148_2 ((rd_T72 l0_3 x32_2).f2).length c148_2) ∧ w'.cell? (ad150.add (x32_2).toNat) = some (.slice A150_0 (rd_L10 l1_0 x32_2).length c150_0)) (ds := []) (zb 0 10) (by kernel_rfl) rfl rfl ⟨(blk_cell BK147.out 0).trans rfl, (blk_cell BK147.out 1).trans rfl, (blk_cell BK147.out 2).trans rfl, (blk_cell BK147.out 3).trans rfl, (blk_cell BK147.out 4).trans rfl, (blk_cell BK149.out 0).trans rfl, (blk_cell BK149.out 1).trans rfl, (blk_cell BK149.out 2).trans rfl, (hc HB.out hw150_0)⟩ (fun hHeld => ?_); refine with_tabW delay_Check.tab6 delay_Check.bits6 (fun HT_ HW_ => ?_)
       generalize w33.drew = w34 at BK146 BK147 BK149 HB HR150_0 hx150_0 hHeld ⊢
       refine pure_ (i := 0) (N := some 37) (v := ?_) (a' := ?_) (zb 1 9) rfl rfl (any_of HT_.out (by kernel_rfl)) (fun _ _ _ h => h) (Or.inl ⟨by rfl, ?_⟩) ?_ ?_
       rotate_left; focus (intro w'; go_simp; with_reducible rfl)
       rotate_left; focus (simp only [Act.put, z1, z2, z3, i64_w, i32_w]; rfl)
       refine pure_ (i := 2) (N := some 39) (v := ?_) (a' := ?_) #[true,false,true,false,false,false,false,false,false,false] rfl rfl (any_of HT_.out (by kernel_rfl)) (fun _ _ _ h => h) (Or.inl ⟨by rfl, ?_⟩) ?_ ?_
       rotate_left; focus (intro w'; go_simp; with_reducible rfl)
       rotate_left; focus (simp only [Act.put, z1, z2, z3, i64_w, i32_w]; rfl)
       refine pure_ (i := 5) (N := some 42) (v := ?_) (a' := ?_) #[true,false,true,false,false,true,false,false,false,false] rfl rfl (any_of HT_.out (by kernel_rfl)) (fun _ _ _ h => h) (Or.inl ⟨by rfl, ?_⟩) ?_ ?_
       rotate_left; focus (intro w'; go_simp; with_reducible rfl)
       rotate_left; focus (simp only [Act.put, z1, z2, z3, i64_w, i32_w]; rfl)
       refine take_ (i := 1) (N := some 38) (v := ?_) (a' := ?_) #[true,true,true,false,false,true,false,false,false,false] rfl rfl (take_ofW HT_.out HW_.out (by kernel_rfl)) (fun _ _ _ h => h) (Or.inl ⟨by rfl, ?_⟩) hHeld ?_ ?_
       rotate_left
       · rintro w' ⟨s0, s1, s2, s3, s4, s5, s6, s7, s8⟩
         go_simp
         with_reducible rfl
       rotate_left; focus (simp only [Act.put, z1, z2, z3, i64_w, i32_w]; rfl)
       refine pure_ (i := 3) (N := some 40) (v := ?_) (a' := ?_) #[true,true,true,true,false,true,false,false,false,false] rfl rfl (any_of HT_.out (by kernel_rfl)) (fun _ _ _ h => h) (Or.inl ⟨by rfl, ?_⟩) ?_ ?_
       rotate_left; focus (intro w'; go_simp; with_reducible rfl)
       rotate_left; focus (simp only [Act.put, z1, z2, z3, i64_w, i32_w]; rfl)
       refine take_ (i := 4) (N := some 41) (v := ?_) (a' := ?_) (zb 6 4) rfl rfl (take_ofW HT_.out HW_.out (by kernel_rfl)) (fun _ _ _ h => h) (Or.inl ⟨by rfl, ?_⟩) hHeld ?_ ?_
       rotate_left
       · rintro w' ⟨s0, s1, s2, s3, s4, s5, s6, s7, s8⟩
         go_simp
         with_reducible rfl
       rotate_left; focus (simp only [Act.put, z1, z2, z3, i64_w, i32_w]; rfl)
       refine take_ (i := 6) (N := some 43) (v := ?_) (a' := ?_) (zb 7 3) rfl rfl (take_ofW HT_.out HW_.out (by kernel_rfl)) (fun _ _ _ h => h) (Or.inl ⟨by rfl, ?_⟩) hHeld ?_ ?_
       rotate_left
       · rintro w' ⟨s0, s1, s2, s3, s4, s5, s6, s7, s8⟩
         go_simp
         with_reducible rfl
       rotate_left; focus (simp only [Act.put, z1, z2, z3, i64_w, i32_w]; rfl)
       refine pure_ (i := 7) (N := some 44) (v := ?_) (a' := ?_) (zb 8 2) rfl rfl (any_of HT_.out (by kernel_rfl)) (fun _ _ _ h => h) (Or.inl ⟨by rfl, ?_⟩) ?_ ?_
       rotate_left; focus (intro w'; go_simp; with_reducible rfl)
       rotate_left; focus (simp only [Act.put, z1, z2, z3, i64_w, i32_w]; rfl)
       refine one_ (i := 8) (N := some 45) (zb 9 1) rfl rfl (one_of HT_.out (by kernel_rfl)) (by decide) (fun K hK => ?_)
       refine goes_ Tryd.func25 (by kernel_rfl) rfl #[.slice A150_0 (rd_L10 l1_0 x32_2).length c150_0, .int .i64 (((rd_T72 l0_3 x32_2).f2).length : Int)] (by rfl) rfl rfl (by (try simp only [List.map_toArray, List.map_cons, List.map_nil]); first | done | rfl | (simp only [List.length_drop, List.length_take]; rfl)) ?_
       with_reducible refine (delay_all.calls k2 _ _ (rd_L10 l1_0 x32_2) (((rd_T72 l0_3 x32_2).f2).length : Int) t151 _ ?side1 ?side2 A20.out).mono ?_
       (case side1 => exact kc (Kd.C_below HR150_0.out HB.out))
       (case side2 => exact HC150_0.out)
       rintro e w35 ⟨rfl, hb⟩
       refine ⟨_, rfl, ?_⟩
       have n0_ := Aside0.mk (bb BK146.out hb)
       have n1_ := Aside0.mk (bb BK147.out hb)
       have n2_ := Aside0.mk (bb BK149.out hb)
       have n3_ := Aside0.mk (below_step bl hb)
       clear BK146
       clear BK147
       clear BK149
       clear HB
       have BK147 := n1_
       have BK149 := n2_
       have HB := n3_
       clear n0_ n1_ n2_ n3_
       (try clear hb)
       (try clear hb2)
       (try clear hk)
       (try clear hi)
       refine hK.out _ _ ⟨(blk_cell BK147.out 0).trans rfl, (blk_cell BK147.out 1).trans rfl, (blk_cell BK147.out 2).trans rfl, (blk_cell BK147.out 3).trans rfl, (blk_cell BK147.out 4).trans rfl, (blk_cell BK149.out 0).trans rfl, (blk_cell BK149.out 1).trans rfl, (blk_cell BK149.out 2).trans rfl, (hc HB.out hw150_0)⟩ (fun hHeld => ?_)
       clear hK K
       refine norm_ (a' := ?_) ?_ ?_
       rotate_left; focus (show Act.put _ (some 45) _ = _; simp only [Act.put, z1, z2, z3, i64_w, i32_w]; rfl)
       refine pure_ (i := 9) (N := some 7) (v := ?_) (a' := ?_) (zb 10 0) rfl rfl (any_of HT_.out (by kernel_rfl)) (fun _ _ _ h => h) (Or.inl ⟨by rfl, ?_⟩) ?_ ?_
       rotate_left; focus (intro w'; go_simp; with_reducible rfl)
       rotate_left; focus (simp only [Act.put, z1, z2, z3, i64_w, i32_w]; rfl)
       refine done_ (done_of HT_.out (by kernel_rfl)) ?_
       try go_wp2
       go_ret
       exact ⟨by first | rfl | (simp [errW_none, errW_some] <;> rfl) | (simp [*, errW_none, errW_some] <;> rfl), bl⟩
     rw [if_pos c21] at H
     have c21b1 : (t151 != 0) = false := bne_eq_false_iff_eq.mpr c21
     clear c21
     have H' := Aside0.mk H
     clear H
     have p148 : 0 ≤ (x32_2 : Int) := of_decide_eq_true (by first | (with_reducible assumption) | assumption)
     have q148 : x32_2 < (l0_3.length : Int) := of_decide_eq_true (by first | (with_reducible assumption) | assumption)
     obtain ⟨ad148, A148_2, c148_2, e148, hx148_0, hx148_1, hx148_2, hl148_2, hi148_2⟩ := at_T72 HR0_3.out x32_2 p148 q148
     cases e148
     replace hx148_0 := hc HB.out hx148_0
     replace hx148_1 := hc HB.out hx148_1
     replace hx148_2 := hc HB.out hx148_2
     clear hi148_2 hl148_2
     replace p148 := eq_true p148
     replace q148 := eq_true q148
     try go_wp2_with ((with_reducible refine gate_dst (N := 6) rfl ?_); (try (refine gate_guard (by rfl) ?_; dsimp only)); refine box_event ?hg (N := 6) ?hd (cs := #[.int .i64 0, .int .u64 0, .slice none 0 0]) (t := 72) ?hr ?_; (case hd => rfl); (case hg => rfl); (case hr => first | (go_simp; done) | (go_simp; rfl)); intro gb149 hg w22 hbox hb; have n0_ := Aside0.mk (bb BK146.out hb); have n1_ := Aside0.mk (bb BK147.out hb); have n2_ := Aside0.mk (below_step bl hb); have n3_ := Aside0.mk (hbox); have n4_ := Aside0.mk (ge (w := w) hg); have n5_ := Aside0.mk (ge (w := w) hg); have n6_ := Aside0.mk (nl hg (bk BK146.out)); have n7_ := Aside0.mk (ng hg (bk BK146.out)); have n8_ := Aside0.mk (nl hg (bk BK147.out)); have n9_ := Aside0.mk (ng hg (bk BK147.out)); clear BK146; clear BK147; clear HB; have BK146 := n0_; have BK147 := n1_; have HB := n2_; have BK149 := n3_; have GE149 := n5_; have NB146_149 := n6_; have NB149_146 := n7_; have NB147_149 := n8_; have NB149_147 := n9_; clear n0_ n1_ n2_ n3_ n4_ n5_ n6_ n7_ n8_ n9_; clear hb hbox hg; obtain ⟨hcz25_0, hcz25_1, hcz25_2, hfz25_0, hfz25_1, hfz25_2⟩ := bz3 BK149.out)
     have n0_ : Aside0 ((((w22.setCell ⟨gb149, 0, none⟩ (.int .i64 ((rd_T72 l0_3 x32_2).f0))).setCell ⟨gb149, 1, none⟩ (.int .u64 ((rd_T72 l0_3 x32_2).f1))).setCell ⟨gb149, 2, none⟩ (.slice A148_2 ((rd_T72 l0_3 x32_2).f2).length c148_2)).heap[gb146]? = some (.cells #[.slice A0_0 l0_0.length c0_0, .slice A0_1 l0_1.length c0_1, .slice A0_2 l0_2.length c0_2, .slice (some ad148) l0_3.length c0_3, .slice A0_4 l0_4.length c0_4] 27 (0, 0))) := ⟨bf BK146.out⟩
     have n1_ : Aside0 ((((w22.setCell ⟨gb149, 0, none⟩ (.int .i64 ((rd_T72 l0_3 x32_2).f0))).setCell ⟨gb149, 1, none⟩ (.int .u64 ((rd_T72 l0_3 x32_2).f1))).setCell ⟨gb149, 2, none⟩ (.slice A148_2 ((rd_T72 l0_3 x32_2).f2).length c148_2)).heap[gb147]? = some (.cells #[.slice A1_0 l1_0.length c1_0, .slice A1_1 l1_1.length c1_1, .slice A1_2 l1_2.length c1_2, .slice A1_3 l1_3.length c1_3, .slice A1_4 l1_4.length c1_4] 32 (0, 0))) := ⟨bf BK147.out⟩
     have n2_ : Aside0 ((((w22.setCell ⟨gb149, 0, none⟩ (.int .i64 ((rd_T72 l0_3 x32_2).f0))).setCell ⟨gb149, 1, none⟩ (.int .u64 ((rd_T72 l0_3 x32_2).f1))).setCell ⟨gb149, 2, none⟩ (.slice A148_2 ((rd_T72 l0_3 x32_2).f2).length c148_2)).heap[gb149]? = some (.cells #[.int .i64 ((rd_T72 l0_3 x32_2).f0), .int .u64 ((rd_T72 l0_3 x32_2).f1), .slice A148_2 ((rd_T72 l0_3 x32_2).f2).length c148_2] 72 (0, 0))) := ⟨by (with_reducible repeat (first | refine blk_drewN ?_ _ | refine blk_drew ?_ | refine blk_alloc ?_ _)); refine blk_put (cs := #[.int .i64 ((rd_T72 l0_3 x32_2).f0), .int .u64 ((rd_T72 l0_3 x32_2).f1), .slice none 0 0]) ?_ 2 _ rfl; (with_reducible repeat (first | refine blk_drewN ?_ _ | refine blk_drew ?_ | refine blk_alloc ?_ _)); refine blk_put (cs := #[.int .i64 ((rd_T72 l0_3 x32_2).f0), .int .u64 0, .slice none 0 0]) ?_ 1 _ rfl; (with_reducible repeat (first | refine blk_drewN ?_ _ | refine blk_drew ?_ | refine blk_alloc ?_ _)); refine blk_put (cs := #[.int .i64 0, .int .u64 0, .slice none 0 0]) ?_ 0 _ rfl; (with_reducible repeat (first | refine blk_drewN ?_ _ | refine blk_drew ?_ | refine blk_alloc ?_ _)); exact BK149.out⟩
     have n3_ : Aside0 (Below w.heap.size w (((w22.setCell ⟨gb149, 0, none⟩ (.int .i64 ((rd_T72 l0_3 x32_2).f0))).setCell ⟨gb149, 1, none⟩ (.int .u64 ((rd_T72 l0_3 x32_2).f1))).setCell ⟨gb149, 2, none⟩ (.slice A148_2 ((rd_T72 l0_3 x32_2).f2).length c148_2))) := ⟨bl⟩
     (try clear BK146)
     (try clear BK147)
     (try clear BK149)
     (try clear HB)
     generalize (((w22.setCell ⟨gb149, 0, none⟩ (.int .i64 ((rd_T72 l0_3 x32_2).f0))).setCell ⟨gb149, 1, none⟩ (.int .u64 ((rd_T72 l0_3 x32_2).f1))).setCell ⟨gb149, 2, none⟩ (.slice A148_2 ((rd_T72 l0_3 x32_2).f2).length c148_2)) = w26 at n0_ n1_ n2_ n3_ ⊢
     have BK146 := n0_
     have BK147 := n1_
     have BK149 := n2_
     have HB := n3_
     clear n0_ n1_ n2_ n3_
     have n0_ := Aside0.mk (blk_drew BK146.out)
     have n1_ := Aside0.mk (blk_drew BK147.out)
     have n2_ := Aside0.mk (blk_drew BK149.out)
     have n3_ := Aside0.mk (below_drew1 HB.out)
     clear BK146
     clear BK147
     clear BK149
     clear HB
     have BK146 := n0_
     have BK147 := n1_
     have BK149 := n2_
     have HB := n3_
     clear n0_ n1_ n2_ n3_
     have p150 : 0 ≤ (x32_2 : Int) := of_decide_eq_true (by first | (with_reducible assumption) | assumption)
     have q150 : x32_2 < (l1_0.length : Int) := of_decide_eq_true (by first | (with_reducible assumption) | assumption)
     obtain ⟨ad150, A150_0, c150_0, e150, hx150_0, hl150_0, hi150_0⟩ := at_L10 HR1_0.out x32_2 p150 q150
     have hw150_0 := hx150_0
     cases e150
     replace hx150_0 := hc HB.out hx150_0
     have HR150_0 := Aside0.mk hi150_0
     have HC150_0 := Aside0.mk hl150_0
     clear hi150_0 hl150_0
     replace p150 := eq_true p150
     replace q150 := eq_true q150
     refine start_ (n := 10) (S := fun w' => w'.cell? ⟨gb147, 0, none⟩ = some (.slice (some ad150) l1_0.length c1_0) ∧ w'.cell? ⟨gb147, 1, none⟩ = some (.slice A1_1 l1_1.length c1_1) ∧ w'.cell? ⟨gb147, 2, none⟩ = some (.slice A1_2 l1_2.length c1_2) ∧ w'.cell? ⟨gb147, 3, none⟩ = some (.slice A1_3 l1_3.length c1_3) ∧ w'.cell? ⟨gb147, 4, none⟩ = some (.slice A1_4 l1_4.length c1_4) ∧ w'.cell? ⟨gb149, 0, none⟩ = some (.int .i64 ((rd_T72 l0_3 x32_2).f0)) ∧ w'.cell? ⟨gb149, 1, none⟩ = some (.int .u64 ((rd_T72 l0_3 x32_2).f1)) ∧ w'.cell? ⟨gb149, 2, none⟩ = some (.slice A148_2 ((rd_T72 l0_3 x32_2).f2).length c148_2) ∧ w'.cell? (ad150.add (x32_2).toNat) = some (.slice A150_0 (rd_L10 l1_0 x32_2).length c150_0)) (ds := []) (zb 0 10) (by kernel_rfl) rfl rfl ⟨(blk_cell BK147.out 0).trans rfl, (blk_cell BK147.out 1).trans rfl, (blk_cell BK147.out 2).trans rfl, (blk_cell BK147.out 3).trans rfl, (blk_cell BK147.out 4).trans rfl, (blk_cell BK149.out 0).trans rfl, (blk_cell BK149.out 1).trans rfl, (blk_cell BK149.out 2).trans rfl, (hc HB.out hw150_0)⟩ (fun hHeld => ?_); refine with_tabW delay_Check.tab6 delay_Check.bits6 (fun HT_ HW_ => ?_)
     generalize w26.drew = w27 at BK146 BK147 BK149 HB HR150_0 hx150_0 hHeld ⊢
     refine pure_ (i := 0) (N := some 37) (v := ?_) (a' := ?_) (zb 1 9) rfl rfl (any_of HT_.out (by kernel_rfl)) (fun _ _ _ h => h) (Or.inl ⟨by rfl, ?_⟩) ?_ ?_
     rotate_left; focus (intro w'; go_simp; with_reducible rfl)
     rotate_left; focus (simp only [Act.put, z1, z2, z3, i64_w, i32_w]; rfl)
     refine pure_ (i := 2) (N := some 39) (v := ?_) (a' := ?_) #[true,false,true,false,false,false,false,false,false,false] rfl rfl (any_of HT_.out (by kernel_rfl)) (fun _ _ _ h => h) (Or.inl ⟨by rfl, ?_⟩) ?_ ?_
     rotate_left; focus (intro w'; go_simp; with_reducible rfl)
     rotate_left; focus (simp only [Act.put, z1, z2, z3, i64_w, i32_w]; rfl)
     refine pure_ (i := 5) (N := some 42) (v := ?_) (a' := ?_) #[true,false,true,false,false,true,false,false,false,false] rfl rfl (any_of HT_.out (by kernel_rfl)) (fun _ _ _ h => h) (Or.inl ⟨by rfl, ?_⟩) ?_ ?_
     rotate_left; focus (intro w'; go_simp; with_reducible rfl)
     rotate_left; focus (simp only [Act.put, z1, z2, z3, i64_w, i32_w]; rfl)
     refine take_ (i := 1) (N := some 38) (v := ?_) (a' := ?_) #[true,true,true,false,false,true,false,false,false,false] rfl rfl (take_ofW HT_.out HW_.out (by kernel_rfl)) (fun _ _ _ h => h) (Or.inl ⟨by rfl, ?_⟩) hHeld ?_ ?_
     rotate_left
     · rintro w' ⟨s0, s1, s2, s3, s4, s5, s6, s7, s8⟩
       go_simp
       with_reducible rfl
     rotate_left; focus (simp only [Act.put, z1, z2, z3, i64_w, i32_w]; rfl)
     refine pure_ (i := 3) (N := some 40) (v := ?_) (a' := ?_) #[true,true,true,true,false,true,false,false,false,false] rfl rfl (any_of HT_.out (by kernel_rfl)) (fun _ _ _ h => h) (Or.inl ⟨by rfl, ?_⟩) ?_ ?_
     rotate_left; focus (intro w'; go_simp; with_reducible rfl)
     rotate_left; focus (simp only [Act.put, z1, z2, z3, i64_w, i32_w]; rfl)
     refine take_ (i := 4) (N := some 41) (v := ?_) (a' := ?_) (zb 6 4) rfl rfl (take_ofW HT_.out HW_.out (by kernel_rfl)) (fun _ _ _ h => h) (Or.inl ⟨by rfl, ?_⟩) hHeld ?_ ?_
     rotate_left
     · rintro w' ⟨s0, s1, s2, s3, s4, s5, s6, s7, s8⟩
       go_simp
       with_reducible rfl
     rotate_left; focus (simp only [Act.put, z1, z2, z3, i64_w, i32_w]; rfl)
     refine take_ (i := 6) (N := some 43) (v := ?_) (a' := ?_) (zb 7 3) rfl rfl (take_ofW HT_.out HW_.out (by kernel_rfl)) (fun _ _ _ h => h) (Or.inl ⟨by rfl, ?_⟩) hHeld ?_ ?_
     rotate_left
     · rintro w' ⟨s0, s1, s2, s3, s4, s5, s6, s7, s8⟩
       go_simp
       with_reducible rfl
     rotate_left; focus (simp only [Act.put, z1, z2, z3, i64_w, i32_w]; rfl)
     refine pure_ (i := 7) (N := some 44) (v := ?_) (a' := ?_) (zb 8 2) rfl rfl (any_of HT_.out (by kernel_rfl)) (fun _ _ _ h => h) (Or.inl ⟨by rfl, ?_⟩) ?_ ?_
     rotate_left; focus (intro w'; go_simp; with_reducible rfl)
     rotate_left; focus (simp only [Act.put, z1, z2, z3, i64_w, i32_w]; rfl)
     refine one_ (i := 8) (N := some 45) (zb 9 1) rfl rfl (one_of HT_.out (by kernel_rfl)) (by decide) (fun K hK => ?_)
     refine goes_ Tryd.func25 (by kernel_rfl) rfl #[.slice A150_0 (rd_L10 l1_0 x32_2).length c150_0, .int .i64 (((rd_T72 l0_3 x32_2).f2).length : Int)] (by rfl) rfl rfl (by (try simp only [List.map_toArray, List.map_cons, List.map_nil]); first | done | rfl | (simp only [List.length_drop, List.length_take]; rfl)) ?_
     with_reducible refine (delay_all.calls k2 _ _ (rd_L10 l1_0 x32_2) (((rd_T72 l0_3 x32_2).f2).length : Int) t151 _ ?side1 ?side2 A20.out).mono ?_
     (case side1 => exact kc (Kd.C_below HR150_0.out HB.out))
     (case side2 => exact HC150_0.out)
     rintro e w28 ⟨rfl, hb⟩
     refine ⟨_, rfl, ?_⟩
     have n0_ := Aside0.mk (bb BK146.out hb)
     have n1_ := Aside0.mk (bb BK147.out hb)
     have n2_ := Aside0.mk (bb BK149.out hb)
     have n3_ := Aside0.mk (below_step bl hb)
     clear BK146
     clear BK147
     clear BK149
     clear HB
     have BK146 := n0_
     have BK147 := n1_
     have BK149 := n2_
     have HB := n3_
     clear n0_ n1_ n2_ n3_
     (try clear hb)
     (try clear hb2)
     (try clear hk)
     (try clear hi)
     refine hK.out _ _ ⟨(blk_cell BK147.out 0).trans rfl, (blk_cell BK147.out 1).trans rfl, (blk_cell BK147.out 2).trans rfl, (blk_cell BK147.out 3).trans rfl, (blk_cell BK147.out 4).trans rfl, (blk_cell BK149.out 0).trans rfl, (blk_cell BK149.out 1).trans rfl, (blk_cell BK149.out 2).trans rfl, (hc HB.out hw150_0)⟩ (fun hHeld => ?_)
     clear hK K
     refine norm_ (a' := ?_) ?_ ?_
     rotate_left; focus (show Act.put _ (some 45) _ = _; simp only [Act.put, z1, z2, z3, i64_w, i32_w]; rfl)
     refine pure_ (i := 9) (N := some 7) (v := ?_) (a' := ?_) (zb 10 0) rfl rfl (any_of HT_.out (by kernel_rfl)) (fun _ _ _ h => h) (Or.inl ⟨by rfl, ?_⟩) ?_ ?_
     rotate_left; focus (intro w'; go_simp; with_reducible rfl)
     rotate_left; focus (simp only [Act.put, z1, z2, z3, i64_w, i32_w]; rfl)
     refine done_ (done_of HT_.out (by kernel_rfl)) ?_
     try go_wp2
     go_roundg k2
     case measure => have := HJ2.out; have := HK2.out; omega
     case rel => exact ⟨(wrap64 (x32_2 + 1)), (by first | rfl | (simp; done) | (simp [*]; done)), H', ⟨by have := HJ2.out; have := HK2.out; omega⟩, ⟨bk BK146.out⟩, ⟨bk BK147.out⟩, ⟨bl⟩⟩
   rw [if_neg c16] at H
   have c16b0 : decide (x32_2 < (l0_3.length : Int)) = false := decide_eq_false c16
   clear c16
   have H' := Aside0.mk H
   clear H
   obtain ⟨hcz37_0, hcz37_1, hcz37_2, hcz37_3, hcz37_4, hfz37_0, hfz37_1, hfz37_2, hfz37_3, hfz37_4⟩ := bz5 BK146.out
   go_wp2
   go_loopg [53] k2 (fun kq v53 w' => ∃ (x53_3 : Int), v53 = .int .i64 x53_3 ∧ Aside0 (delay_Check.l1 kq l0_2 (l0_2.length : Int) x53_3 l0_0 l0_1 l0_2 l0_3 l0_4 l1_0 l1_1 l1_2 l1_3 l1_4 = some r) ∧ Aside0 (kq ≤ k2) ∧ Aside0 (w'.heap[gb146]? = some (.cells #[(.slice A0_0 l0_0.length c0_0), (.slice A0_1 l0_1.length c0_1), (.slice A0_2 l0_2.length c0_2), (.slice A0_3 l0_3.length c0_3), (.slice A0_4 l0_4.length c0_4)] 27 (0, 0))) ∧ Aside0 (w'.heap[gb147]? = some (.cells #[(.slice A1_0 l1_0.length c1_0), (.slice A1_1 l1_1.length c1_1), (.slice A1_2 l1_2.length c1_2), (.slice A1_3 l1_3.length c1_3), (.slice A1_4 l1_4.length c1_4)] 32 (0, 0))) ∧ Aside0 (Below w.heap.size w w'))
   case atStart => exact ⟨(0), (by first | rfl | (simp; done) | (simp [*]; done)), H', ⟨Nat.le_refl _⟩, ⟨bk BK146.out⟩, ⟨bk BK147.out⟩, ⟨bl⟩⟩
   clear H'
   clear c16b0 hcz37_0 hcz37_1 hcz37_2 hcz37_3 hcz37_4 hfz37_0 hfz37_1 hfz37_2 hfz37_3 hfz37_4
   obtain ⟨x53_3, rfl, HA, HK3, BK146, BK147, HB⟩ := hrel
   cases gk with
   | zero => exact absurd HA.out (by simp [delay_Check.l1])
   | succ k3 =>
    have H := HA.out
    clear HA
    simp only [delay_Check.l1] at H
    by_cases c38 : x53_3 < (l0_2.length : Int)
    rotate_left
    · rw [if_neg c38] at H
      have c38b0 : decide (x53_3 < (l0_2.length : Int)) = false := decide_eq_false c38
      clear c38
      replace H := Option.bind_eq_some_iff.mp H
      obtain ⟨t157, A610, H⟩ := H
      replace H : (if t157 = 0 then ((delay_all.f k3 l1_3 (l0_2.length : Int)).bind fun t158 => (if t158 = 0 then ((delay_all.f k3 l1_4 (l0_2.length : Int)).bind fun t159 => (some t159)) else (some t158))) else (some t157)) = some r := H
      have A61 := Aside0.mk A610
      clear A610
      by_cases c62 : t157 = 0
      rotate_left
      · rw [if_neg c62] at H
        have c62b1 : (t157 != 0) = true := bne_iff_ne.mpr c62
        obtain rfl := Option.some.inj H
        obtain ⟨-, -, hcz84_2, -, -, -⟩ := bz3 BK147.out
        obtain ⟨-, -, -, -, hcz85_4, -, -, -, -, -⟩ := bz5 BK146.out
        go_wp2_with ((with_reducible refine gate_callee (f := 25) rfl ?_); refine goesL_ (some 75) rfl rfl Tryd.func25 (by kernel_rfl) rfl #[.slice A1_2 l1_2.length c1_2, .int .i64 (l0_4.length : Int)] rfl (by (try simp only [List.map_toArray, List.map_cons, List.map_nil]); first | done | rfl | (simp only [List.length_drop, List.length_take]; rfl)) ?_; (with_reducible refine (delay_all.calls k3 _ _ l1_2 (l0_4.length : Int) t157 _ ?side1 ?side2 A61.out).mono ?_); (case side1 => exact kc (Kd.C_below HR1_2.out HB.out)); (case side2 => exact HC1_2.out); rintro e w86 ⟨rfl, hb⟩; refine ⟨_, rfl, ?_⟩; have n0_ := Aside0.mk (bb BK146.out hb); have n1_ := Aside0.mk (bb BK147.out hb); have n2_ := Aside0.mk (below_step bl hb); clear BK146; clear BK147; clear HB; have HB := n2_; clear n0_ n1_ n2_; (try clear hb))
        go_ret
        exact ⟨by first | rfl | (simp [errW_none, errW_some] <;> rfl) | (simp [*, errW_none, errW_some] <;> rfl), bl⟩
      rw [if_pos c62] at H
      have c62b1 : (t157 != 0) = false := bne_eq_false_iff_eq.mpr c62
      clear c62
      replace H := Option.bind_eq_some_iff.mp H
      obtain ⟨t158, A630, H⟩ := H
      replace H : (if t158 = 0 then ((delay_all.f k3 l1_4 (l0_2.length : Int)).bind fun t159 => (some t159)) else (some t158)) = some r := H
      have A63 := Aside0.mk A630
      clear A630
      by_cases c64 : t158 = 0
      rotate_left
      · rw [if_neg c64] at H
        have c64b1 : (t158 != 0) = true := bne_iff_ne.mpr c64
        obtain rfl := Option.some.inj H
        obtain ⟨-, -, hcz77_2, -, -, -⟩ := bz3 BK147.out
        obtain ⟨-, -, -, -, hcz78_4, -, -, -, -, -⟩ := bz5 BK146.out
        go_wp2_with (first | ((with_reducible refine gate_callee (f := 25) rfl ?_); refine goesL_ (some 75) rfl rfl Tryd.func25 (by kernel_rfl) rfl #[.slice A1_2 l1_2.length c1_2, .int .i64 (l0_4.length : Int)] rfl (by (try simp only [List.map_toArray, List.map_cons, List.map_nil]); first | done | rfl | (simp only [List.length_drop, List.length_take]; rfl)) ?_; (with_reducible refine (delay_all.calls k3 _ _ l1_2 (l0_4.length : Int) t157 _ ?side1 ?side2 A61.out).mono ?_); (case side1 => exact kc (Kd.C_below HR1_2.out HB.out)); (case side2 => exact HC1_2.out); rintro e w79 ⟨rfl, hb⟩; refine ⟨_, rfl, ?_⟩; replace BK146 := Aside0.mk (bb BK146.out hb); replace BK147 := Aside0.mk (bb BK147.out hb); replace HB := Aside0.mk (below_step bl hb); (try clear hb); obtain ⟨-, -, -, hcz80_3, -, -, -, -⟩ := bz4 BK147.out; obtain ⟨-, -, hcz81_2, -, -, -, -, -, -, hfz81_4⟩ := bz5 BK146.out) | ((with_reducible refine gate_callee (f := 25) rfl ?_); refine goesL_ (some 84) rfl rfl Tryd.func25 (by kernel_rfl) rfl #[.slice A1_3 l1_3.length c1_3, .int .i64 (l0_2.length : Int)] rfl (by (try simp only [List.map_toArray, List.map_cons, List.map_nil]); first | done | rfl | (simp only [List.length_drop, List.length_take]; rfl)) ?_; (with_reducible refine (delay_all.calls k3 _ _ l1_3 (l0_2.length : Int) t158 _ ?side1 ?side2 A63.out).mono ?_); (case side1 => exact kc (Kd.C_below HR1_3.out HB.out)); (case side2 => exact HC1_3.out); rintro e w82 ⟨rfl, hb⟩; refine ⟨_, rfl, ?_⟩; have n0_ := Aside0.mk (bb BK146.out hb); have n1_ := Aside0.mk (bb BK147.out hb); have n2_ := Aside0.mk (below_step bl hb); clear BK146; clear BK147; clear HB; have HB := n2_; clear n0_ n1_ n2_; (try clear hb)))
        go_ret
        exact ⟨by first | rfl | (simp [errW_none, errW_some] <;> rfl) | (simp [*, errW_none, errW_some] <;> rfl), bl⟩
      rw [if_pos c64] at H
      have c64b1 : (t158 != 0) = false := bne_eq_false_iff_eq.mpr c64
      clear c64
      replace H := Option.bind_eq_some_iff.mp H
      obtain ⟨t159, A650, H⟩ := H
      replace H : (some t159) = some r := H
      have A65 := Aside0.mk A650
      clear A650
      obtain rfl := Option.some.inj H
      obtain ⟨-, -, hcz67_2, -, -, -⟩ := bz3 BK147.out
      obtain ⟨-, -, -, -, hcz68_4, -, -, -, -, -⟩ := bz5 BK146.out
      go_wp2_with (first | ((with_reducible refine gate_callee (f := 25) rfl ?_); refine goesL_ (some 75) rfl rfl Tryd.func25 (by kernel_rfl) rfl #[.slice A1_2 l1_2.length c1_2, .int .i64 (l0_4.length : Int)] rfl (by (try simp only [List.map_toArray, List.map_cons, List.map_nil]); first | done | rfl | (simp only [List.length_drop, List.length_take]; rfl)) ?_; (with_reducible refine (delay_all.calls k3 _ _ l1_2 (l0_4.length : Int) t157 _ ?side1 ?side2 A61.out).mono ?_); (case side1 => exact kc (Kd.C_below HR1_2.out HB.out)); (case side2 => exact HC1_2.out); rintro e w69 ⟨rfl, hb⟩; refine ⟨_, rfl, ?_⟩; replace BK146 := Aside0.mk (bb BK146.out hb); replace BK147 := Aside0.mk (bb BK147.out hb); replace HB := Aside0.mk (below_step bl hb); (try clear hb); obtain ⟨-, -, -, hcz70_3, -, -, -, -⟩ := bz4 BK147.out; obtain ⟨-, -, hcz71_2, -, -, -, -, -, -, hfz71_4⟩ := bz5 BK146.out) | ((with_reducible refine gate_callee (f := 25) rfl ?_); refine goesL_ (some 84) rfl rfl Tryd.func25 (by kernel_rfl) rfl #[.slice A1_3 l1_3.length c1_3, .int .i64 (l0_2.length : Int)] rfl (by (try simp only [List.map_toArray, List.map_cons, List.map_nil]); first | done | rfl | (simp only [List.length_drop, List.length_take]; rfl)) ?_; (with_reducible refine (delay_all.calls k3 _ _ l1_3 (l0_2.length : Int) t158 _ ?side1 ?side2 A63.out).mono ?_); (case side1 => exact kc (Kd.C_below HR1_3.out HB.out)); (case side2 => exact HC1_3.out); rintro e w72 ⟨rfl, hb⟩; refine ⟨_, rfl, ?_⟩; replace BK146 := Aside0.mk (bb BK146.out hb); replace BK147 := Aside0.mk (bb BK147.out hb); replace HB := Aside0.mk (below_step bl hb); (try clear hb); obtain ⟨-, -, -, -, hcz73_4, -, -, -, -, -⟩ := bz5 BK147.out; obtain ⟨-, -, hcz74_2, -, -, -, -, -, -, hfz74_4⟩ := bz5 BK146.out) | ((with_reducible refine gate_callee (f := 25) rfl ?_); refine goesL_ (some 93) rfl rfl Tryd.func25 (by kernel_rfl) rfl #[.slice A1_4 l1_4.length c1_4, .int .i64 (l0_2.length : Int)] rfl (by (try simp only [List.map_toArray, List.map_cons, List.map_nil]); first | done | rfl | (simp only [List.length_drop, List.length_take]; rfl)) ?_; (with_reducible refine (delay_all.calls k3 _ _ l1_4 (l0_2.length : Int) t159 _ ?side1 ?side2 A65.out).mono ?_); (case side1 => exact kc (Kd.C_below HR1_4.out HB.out)); (case side2 => exact HC1_4.out); rintro e w75 ⟨rfl, hb⟩; refine ⟨_, rfl, ?_⟩; have n0_ := Aside0.mk (bb BK146.out hb); have n1_ := Aside0.mk (bb BK147.out hb); have n2_ := Aside0.mk (below_step bl hb); clear BK146; clear BK147; clear HB; have HB := n2_; clear n0_ n1_ n2_; (try clear hb)))
      go_ret
      exact ⟨by first | rfl | (simp [errW_none, errW_some] <;> rfl) | (simp [*, errW_none, errW_some] <;> rfl), bl⟩
    rw [if_pos c38] at H
    have c38b0 : decide (x53_3 < (l0_2.length : Int)) = true := decide_eq_true c38
    clear c38
    by_cases c39 : 0 ≤ x53_3
    rotate_left
    · rw [if_neg c39] at H
      exact absurd H (by simp)
    rw [if_pos c39] at H
    have c39b0 : decide (0 ≤ x53_3) = true := decide_eq_true c39
    clear c39
    by_cases c40 : x53_3 < (l0_2.length : Int)
    rotate_left
    · rw [if_neg c40] at H
      exact absurd H (by simp)
    rw [if_pos c40] at H
    have c40b0 : decide (x53_3 < (l0_2.length : Int)) = true := decide_eq_true c40
    clear c40
    by_cases c41 : x53_3 < (l1_1.length : Int)
    rotate_left
    · rw [if_neg c41] at H
      exact absurd H (by simp)
    rw [if_pos c41] at H
    have c41b0 : decide (x53_3 < (l1_1.length : Int)) = true := decide_eq_true c41
    clear c41
    replace H := Option.bind_eq_some_iff.mp H
    obtain ⟨t155, A420, H⟩ := H
    replace H : ((delay_all.f k3 (rd_L10 l1_1 x53_3) t155).bind fun t156 => (if t156 = 0 then (delay_Check.l1 k3 l0_2 (l0_2.length : Int) (wrap64 (x53_3 + 1)) l0_0 l0_1 l0_2 l0_3 l0_4 l1_0 l1_1 l1_2 l1_3 l1_4) else (some t156))) = some r := H
    have A42 := Aside0.mk A420
    clear A420
    replace H := Option.bind_eq_some_iff.mp H
    obtain ⟨t156, A430, H⟩ := H
    replace H : (if t156 = 0 then (delay_Check.l1 k3 l0_2 (l0_2.length : Int) (wrap64 (x53_3 + 1)) l0_0 l0_1 l0_2 l0_3 l0_4 l1_0 l1_1 l1_2 l1_3 l1_4) else (some t156)) = some r := H
    have A43 := Aside0.mk A430
    clear A430
    by_cases c44 : t156 = 0
    rotate_left
    · rw [if_neg c44] at H
      have c44b1 : (t156 != 0) = true := bne_iff_ne.mpr c44
      obtain rfl := Option.some.inj H
      have p152 : 0 ≤ (x53_3 : Int) := of_decide_eq_true (by first | (with_reducible assumption) | assumption)
      have q152 : x53_3 < (l0_2.length : Int) := of_decide_eq_true (by first | (with_reducible assumption) | assumption)
      obtain ⟨ad152, e152, hx152_0, hx152_1, hx152_2, hx152_3, hx152_4⟩ := at_T58 HR0_2.out x53_3 p152 q152
      cases e152
      replace hx152_0 := hc HB.out hx152_0
      replace hx152_1 := hc HB.out hx152_1
      replace hx152_2 := hc HB.out hx152_2
      replace hx152_3 := hc HB.out hx152_3
      replace hx152_4 := hc HB.out hx152_4
      replace p152 := eq_true p152
      replace q152 := eq_true q152
      try go_wp2_with ((with_reducible refine gate_dst (N := 9) rfl ?_); (try (refine gate_guard (by rfl) ?_; dsimp only)); refine box_event ?hg (N := 9) ?hd (cs := #[.string (⟨#[]⟩ : ByteArray), .int .i64 0, .int .i64 0, .int .i64 0, .bool false]) (t := 58) ?hr ?_; (case hd => rfl); (case hg => rfl); (case hr => first | (go_simp; done) | (go_simp; rfl)); intro gb153 hg w53 hbox hb; have n0_ := Aside0.mk (bb BK146.out hb); have n1_ := Aside0.mk (bb BK147.out hb); have n2_ := Aside0.mk (below_step bl hb); have n3_ := Aside0.mk (hbox); have n4_ := Aside0.mk (ge (w := w) hg); have n5_ := Aside0.mk (ge (w := w) hg); have n6_ := Aside0.mk (nl hg (bk BK146.out)); have n7_ := Aside0.mk (ng hg (bk BK146.out)); have n8_ := Aside0.mk (nl hg (bk BK147.out)); have n9_ := Aside0.mk (ng hg (bk BK147.out)); clear BK146; clear BK147; clear HB; have BK146 := n0_; have BK147 := n1_; have HB := n2_; have BK153 := n3_; have GE153 := n5_; have NB146_153 := n6_; have NB153_146 := n7_; have NB147_153 := n8_; have NB153_147 := n9_; clear n0_ n1_ n2_ n3_ n4_ n5_ n6_ n7_ n8_ n9_; clear hb hbox hg; obtain ⟨hcz56_0, hcz56_1, hcz56_2, hcz56_3, hcz56_4, hfz56_0, hfz56_1, hfz56_2, hfz56_3, hfz56_4⟩ := bz5 BK153.out)
      have n0_ : Aside0 ((((((w53.setCell ⟨gb153, 0, none⟩ (.string ((rd_T58 l0_2 x53_3).f0))).setCell ⟨gb153, 1, none⟩ (.int .i64 ((rd_T58 l0_2 x53_3).f1))).setCell ⟨gb153, 2, none⟩ (.int .i64 ((rd_T58 l0_2 x53_3).f2))).setCell ⟨gb153, 3, none⟩ (.int .i64 ((rd_T58 l0_2 x53_3).f3))).setCell ⟨gb153, 4, none⟩ (.bool ((rd_T58 l0_2 x53_3).f4))).heap[gb146]? = some (.cells #[.slice A0_0 l0_0.length c0_0, .slice A0_1 l0_1.length c0_1, .slice (some ad152) l0_2.length c0_2, .slice A0_3 l0_3.length c0_3, .slice A0_4 l0_4.length c0_4] 27 (0, 0))) := ⟨bf BK146.out⟩
      have n1_ : Aside0 ((((((w53.setCell ⟨gb153, 0, none⟩ (.string ((rd_T58 l0_2 x53_3).f0))).setCell ⟨gb153, 1, none⟩ (.int .i64 ((rd_T58 l0_2 x53_3).f1))).setCell ⟨gb153, 2, none⟩ (.int .i64 ((rd_T58 l0_2 x53_3).f2))).setCell ⟨gb153, 3, none⟩ (.int .i64 ((rd_T58 l0_2 x53_3).f3))).setCell ⟨gb153, 4, none⟩ (.bool ((rd_T58 l0_2 x53_3).f4))).heap[gb147]? = some (.cells #[.slice A1_0 l1_0.length c1_0, .slice A1_1 l1_1.length c1_1, .slice A1_2 l1_2.length c1_2, .slice A1_3 l1_3.length c1_3, .slice A1_4 l1_4.length c1_4] 32 (0, 0))) := ⟨bf BK147.out⟩
      have n2_ : Aside0 ((((((w53.setCell ⟨gb153, 0, none⟩ (.string ((rd_T58 l0_2 x53_3).f0))).setCell ⟨gb153, 1, none⟩ (.int .i64 ((rd_T58 l0_2 x53_3).f1))).setCell ⟨gb153, 2, none⟩ (.int .i64 ((rd_T58 l0_2 x53_3).f2))).setCell ⟨gb153, 3, none⟩ (.int .i64 ((rd_T58 l0_2 x53_3).f3))).setCell ⟨gb153, 4, none⟩ (.bool ((rd_T58 l0_2 x53_3).f4))).heap[gb153]? = some (.cells #[.string ((rd_T58 l0_2 x53_3).f0), .int .i64 ((rd_T58 l0_2 x53_3).f1), .int .i64 ((rd_T58 l0_2 x53_3).f2), .int .i64 ((rd_T58 l0_2 x53_3).f3), .bool ((rd_T58 l0_2 x53_3).f4)] 58 (0, 0))) := ⟨by (with_reducible repeat (first | refine blk_drewN ?_ _ | refine blk_drew ?_ | refine blk_alloc ?_ _)); refine blk_put (cs := #[.string ((rd_T58 l0_2 x53_3).f0), .int .i64 ((rd_T58 l0_2 x53_3).f1), .int .i64 ((rd_T58 l0_2 x53_3).f2), .int .i64 ((rd_T58 l0_2 x53_3).f3), .bool false]) ?_ 4 _ rfl; (with_reducible repeat (first | refine blk_drewN ?_ _ | refine blk_drew ?_ | refine blk_alloc ?_ _)); refine blk_put (cs := #[.string ((rd_T58 l0_2 x53_3).f0), .int .i64 ((rd_T58 l0_2 x53_3).f1), .int .i64 ((rd_T58 l0_2 x53_3).f2), .int .i64 0, .bool false]) ?_ 3 _ rfl; (with_reducible repeat (first | refine blk_drewN ?_ _ | refine blk_drew ?_ | refine blk_alloc ?_ _)); refine blk_put (cs := #[.string ((rd_T58 l0_2 x53_3).f0), .int .i64 ((rd_T58 l0_2 x53_3).f1), .int .i64 0, .int .i64 0, .bool false]) ?_ 2 _ rfl; (with_reducible repeat (first | refine blk_drewN ?_ _ | refine blk_drew ?_ | refine blk_alloc ?_ _)); refine blk_put (cs := #[.string ((rd_T58 l0_2 x53_3).f0), .int .i64 0, .int .i64 0, .int .i64 0, .bool false]) ?_ 1 _ rfl; (with_reducible repeat (first | refine blk_drewN ?_ _ | refine blk_drew ?_ | refine blk_alloc ?_ _)); refine blk_put (cs := #[.string (⟨#[]⟩ : ByteArray), .int .i64 0, .int .i64 0, .int .i64 0, .bool false]) ?_ 0 _ rfl; (with_reducible repeat (first | refine blk_drewN ?_ _ | refine blk_drew ?_ | refine blk_alloc ?_ _)); exact BK153.out⟩
      have n3_ : Aside0 (Below w.heap.size w (((((w53.setCell ⟨gb153, 0, none⟩ (.string ((rd_T58 l0_2 x53_3).f0))).setCell ⟨gb153, 1, none⟩ (.int .i64 ((rd_T58 l0_2 x53_3).f1))).setCell ⟨gb153, 2, none⟩ (.int .i64 ((rd_T58 l0_2 x53_3).f2))).setCell ⟨gb153, 3, none⟩ (.int .i64 ((rd_T58 l0_2 x53_3).f3))).setCell ⟨gb153, 4, none⟩ (.bool ((rd_T58 l0_2 x53_3).f4)))) := ⟨bl⟩
      (try clear BK146)
      (try clear BK147)
      (try clear BK153)
      (try clear HB)
      generalize (((((w53.setCell ⟨gb153, 0, none⟩ (.string ((rd_T58 l0_2 x53_3).f0))).setCell ⟨gb153, 1, none⟩ (.int .i64 ((rd_T58 l0_2 x53_3).f1))).setCell ⟨gb153, 2, none⟩ (.int .i64 ((rd_T58 l0_2 x53_3).f2))).setCell ⟨gb153, 3, none⟩ (.int .i64 ((rd_T58 l0_2 x53_3).f3))).setCell ⟨gb153, 4, none⟩ (.bool ((rd_T58 l0_2 x53_3).f4))) = w57 at n0_ n1_ n2_ n3_ ⊢
      have BK146 := n0_
      have BK147 := n1_
      have BK153 := n2_
      have HB := n3_
      clear n0_ n1_ n2_ n3_
      have n0_ := Aside0.mk (blk_drew BK146.out)
      have n1_ := Aside0.mk (blk_drew BK147.out)
      have n2_ := Aside0.mk (blk_drew BK153.out)
      have n3_ := Aside0.mk (below_drew1 HB.out)
      clear BK146
      clear BK147
      clear BK153
      clear HB
      have BK146 := n0_
      have BK147 := n1_
      have BK153 := n2_
      have HB := n3_
      clear n0_ n1_ n2_ n3_
      have p154 : 0 ≤ (x53_3 : Int) := of_decide_eq_true (by first | (with_reducible assumption) | assumption)
      have q154 : x53_3 < (l1_1.length : Int) := of_decide_eq_true (by first | (with_reducible assumption) | assumption)
      obtain ⟨ad154, A154_0, c154_0, e154, hx154_0, hl154_0, hi154_0⟩ := at_L10 HR1_1.out x53_3 p154 q154
      have hw154_0 := hx154_0
      cases e154
      replace hx154_0 := hc HB.out hx154_0
      have HR154_0 := Aside0.mk hi154_0
      have HC154_0 := Aside0.mk hl154_0
      clear hi154_0 hl154_0
      replace p154 := eq_true p154
      replace q154 := eq_true q154
      refine start_ (n := 9) (S := fun w' => w'.cell? ⟨gb147, 0, none⟩ = some (.slice A1_0 l1_0.length c1_0) ∧ w'.cell? ⟨gb147, 1, none⟩ = some (.slice (some ad154) l1_1.length c1_1) ∧ w'.cell? ⟨gb147, 2, none⟩ = some (.slice A1_2 l1_2.length c1_2) ∧ w'.cell? ⟨gb147, 3, none⟩ = some (.slice A1_3 l1_3.length c1_3) ∧ w'.cell? ⟨gb147, 4, none⟩ = some (.slice A1_4 l1_4.length c1_4) ∧ w'.cell? ⟨gb153, 0, none⟩ = some (.string ((rd_T58 l0_2 x53_3).f0)) ∧ w'.cell? ⟨gb153, 1, none⟩ = some (.int .i64 ((rd_T58 l0_2 x53_3).f1)) ∧ w'.cell? ⟨gb153, 2, none⟩ = some (.int .i64 ((rd_T58 l0_2 x53_3).f2)) ∧ w'.cell? ⟨gb153, 3, none⟩ = some (.int .i64 ((rd_T58 l0_2 x53_3).f3)) ∧ w'.cell? ⟨gb153, 4, none⟩ = some (.bool ((rd_T58 l0_2 x53_3).f4)) ∧ w'.cell? (ad154.add (x53_3).toNat) = some (.slice A154_0 (rd_L10 l1_1 x53_3).length c154_0)) (ds := []) (zb 0 9) (by kernel_rfl) rfl rfl ⟨(blk_cell BK147.out 0).trans rfl, (blk_cell BK147.out 1).trans rfl, (blk_cell BK147.out 2).trans rfl, (blk_cell BK147.out 3).trans rfl, (blk_cell BK147.out 4).trans rfl, (blk_cell BK153.out 0).trans rfl, (blk_cell BK153.out 1).trans rfl, (blk_cell BK153.out 2).trans rfl, (blk_cell BK153.out 3).trans rfl, (blk_cell BK153.out 4).trans rfl, (hc HB.out hw154_0)⟩ (fun hHeld => ?_); refine with_tabW delay_Check.tab13 delay_Check.bits13 (fun HT_ HW_ => ?_)
      generalize w57.drew = w58 at BK146 BK147 BK153 HB HR154_0 hx154_0 hHeld ⊢
      refine pure_ (i := 0) (N := some 58) (v := ?_) (a' := ?_) (zb 1 8) rfl rfl (any_of HT_.out (by kernel_rfl)) (fun _ _ _ h => h) (Or.inl ⟨by rfl, ?_⟩) ?_ ?_
      rotate_left; focus (intro w'; go_simp; with_reducible rfl)
      rotate_left; focus (simp only [Act.put, z1, z2, z3, i64_w, i32_w]; rfl)
      refine pure_ (i := 2) (N := some 60) (v := ?_) (a' := ?_) #[true,false,true,false,false,false,false,false,false] rfl rfl (any_of HT_.out (by kernel_rfl)) (fun _ _ _ h => h) (Or.inl ⟨by rfl, ?_⟩) ?_ ?_
      rotate_left; focus (intro w'; go_simp; with_reducible rfl)
      rotate_left; focus (simp only [Act.put, z1, z2, z3, i64_w, i32_w]; rfl)
      refine take_ (i := 1) (N := some 59) (v := ?_) (a' := ?_) (zb 3 6) rfl rfl (take_ofW HT_.out HW_.out (by kernel_rfl)) (fun _ _ _ h => h) (Or.inl ⟨by rfl, ?_⟩) hHeld ?_ ?_
      rotate_left
      · rintro w' ⟨s0, s1, s2, s3, s4, s5, s6, s7, s8, s9, s10⟩
        go_simp
        with_reducible rfl
      rotate_left; focus (simp only [Act.put, z1, z2, z3, i64_w, i32_w]; rfl)
      refine pure_ (i := 3) (N := some 61) (v := ?_) (a' := ?_) (zb 4 5) rfl rfl (any_of HT_.out (by kernel_rfl)) (fun _ _ _ h => h) (Or.inl ⟨by rfl, ?_⟩) ?_ ?_
      rotate_left; focus (intro w'; go_simp; with_reducible rfl)
      rotate_left; focus (simp only [Act.put, z1, z2, z3, i64_w, i32_w]; rfl)
      refine take_ (i := 4) (N := some 62) (v := ?_) (a' := ?_) (zb 5 4) rfl rfl (take_ofW HT_.out HW_.out (by kernel_rfl)) (fun _ _ _ h => h) (Or.inl ⟨by rfl, ?_⟩) hHeld ?_ ?_
      rotate_left
      · rintro w' ⟨s0, s1, s2, s3, s4, s5, s6, s7, s8, s9, s10⟩
        go_simp
        with_reducible rfl
      rotate_left; focus (simp only [Act.put, z1, z2, z3, i64_w, i32_w]; rfl)
      refine take_ (i := 5) (N := some 63) (v := ?_) (a' := ?_) (zb 6 3) rfl rfl (take_ofW HT_.out HW_.out (by kernel_rfl)) (fun _ _ _ h => h) (Or.inl ⟨by rfl, ?_⟩) hHeld ?_ ?_
      rotate_left
      · rintro w' ⟨s0, s1, s2, s3, s4, s5, s6, s7, s8, s9, s10⟩
        go_simp
        with_reducible rfl
      rotate_left; focus (simp only [Act.put, z1, z2, z3, i64_w, i32_w]; rfl)
      refine one_ (i := 6) (N := some 64) (zb 7 2) rfl rfl (one_of HT_.out (by kernel_rfl)) (by decide) (fun K hK => ?_)
      refine goes_ Tryd.func17 (by kernel_rfl) rfl #[.agg #[.string ((rd_T58 l0_2 x53_3).f0), .int .i64 ((rd_T58 l0_2 x53_3).f1), .int .i64 ((rd_T58 l0_2 x53_3).f2), .int .i64 ((rd_T58 l0_2 x53_3).f3), .bool ((rd_T58 l0_2 x53_3).f4)]] (by rfl) rfl rfl (by (try simp only [List.map_toArray, List.map_cons, List.map_nil]); first | done | rfl | (simp only [List.length_drop, List.length_take]; rfl)) ?_
      with_reducible refine (delay_Inputs.calls ((rd_T58 l0_2 x53_3).f0) ((rd_T58 l0_2 x53_3).f1) ((rd_T58 l0_2 x53_3).f2) ((rd_T58 l0_2 x53_3).f3) ((rd_T58 l0_2 x53_3).f4) t155 _ A42.out).mono ?_
      rintro e w59 ⟨rfl, hb⟩
      refine ⟨_, rfl, ?_⟩
      have n0_ := Aside0.mk (bb BK146.out hb)
      have n1_ := Aside0.mk (bb BK147.out hb)
      have n2_ := Aside0.mk (bb BK153.out hb)
      have n3_ := Aside0.mk (below_step bl hb)
      clear BK146
      clear BK147
      clear BK153
      clear HB
      have BK146 := n0_
      have BK147 := n1_
      have BK153 := n2_
      have HB := n3_
      clear n0_ n1_ n2_ n3_
      (try clear hb)
      (try clear hb2)
      (try clear hk)
      (try clear hi)
      refine hK.out _ _ ⟨(blk_cell BK147.out 0).trans rfl, (blk_cell BK147.out 1).trans rfl, (blk_cell BK147.out 2).trans rfl, (blk_cell BK147.out 3).trans rfl, (blk_cell BK147.out 4).trans rfl, (blk_cell BK153.out 0).trans rfl, (blk_cell BK153.out 1).trans rfl, (blk_cell BK153.out 2).trans rfl, (blk_cell BK153.out 3).trans rfl, (blk_cell BK153.out 4).trans rfl, (hc HB.out hw154_0)⟩ (fun hHeld => ?_)
      clear hK K
      refine norm_ (a' := ?_) ?_ ?_
      rotate_left; focus (show Act.put _ (some 64) _ = _; simp only [Act.put, z1, z2, z3, i64_w, i32_w]; rfl)
      refine one_ (i := 7) (N := some 65) (zb 8 1) rfl rfl (one_of HT_.out (by kernel_rfl)) (by decide) (fun K hK => ?_)
      refine goes_ Tryd.func25 (by kernel_rfl) rfl #[.slice A154_0 (rd_L10 l1_1 x53_3).length c154_0, .int .i64 t155] (by rfl) rfl rfl (by (try simp only [List.map_toArray, List.map_cons, List.map_nil]); first | done | rfl | (simp only [List.length_drop, List.length_take]; rfl)) ?_
      with_reducible refine (delay_all.calls k3 _ _ (rd_L10 l1_1 x53_3) t155 t156 _ ?side1 ?side2 A43.out).mono ?_
      (case side1 => exact kc (Kd.C_below HR154_0.out HB.out))
      (case side2 => exact HC154_0.out)
      rintro e w60 ⟨rfl, hb⟩
      refine ⟨_, rfl, ?_⟩
      have n0_ := Aside0.mk (bb BK146.out hb)
      have n1_ := Aside0.mk (bb BK147.out hb)
      have n2_ := Aside0.mk (bb BK153.out hb)
      have n3_ := Aside0.mk (below_step bl hb)
      clear BK146
      clear BK147
      clear BK153
      clear HB
      have BK147 := n1_
      have BK153 := n2_
      have HB := n3_
      clear n0_ n1_ n2_ n3_
      (try clear hb)
      (try clear hb2)
      (try clear hk)
      (try clear hi)
      refine hK.out _ _ ⟨(blk_cell BK147.out 0).trans rfl, (blk_cell BK147.out 1).trans rfl, (blk_cell BK147.out 2).trans rfl, (blk_cell BK147.out 3).trans rfl, (blk_cell BK147.out 4).trans rfl, (blk_cell BK153.out 0).trans rfl, (blk_cell BK153.out 1).trans rfl, (blk_cell BK153.out 2).trans rfl, (blk_cell BK153.out 3).trans rfl, (blk_cell BK153.out 4).trans rfl, (hc HB.out hw154_0)⟩ (fun hHeld => ?_)
      clear hK K
      refine norm_ (a' := ?_) ?_ ?_
      rotate_left; focus (show Act.put _ (some 65) _ = _; simp only [Act.put, z1, z2, z3, i64_w, i32_w]; rfl)
      refine pure_ (i := 8) (N := some 10) (v := ?_) (a' := ?_) (zb 9 0) rfl rfl (any_of HT_.out (by kernel_rfl)) (fun _ _ _ h => h) (Or.inl ⟨by rfl, ?_⟩) ?_ ?_
      rotate_left; focus (intro w'; go_simp; with_reducible rfl)
      rotate_left; focus (simp only [Act.put, z1, z2, z3, i64_w, i32_w]; rfl)
      refine done_ (done_of HT_.out (by kernel_rfl)) ?_
      try go_wp2
      go_ret
      exact ⟨by first | rfl | (simp [errW_none, errW_some] <;> rfl) | (simp [*, errW_none, errW_some] <;> rfl), bl⟩
    rw [if_pos c44] at H
    have c44b1 : (t156 != 0) = false := bne_eq_false_iff_eq.mpr c44
    clear c44
    have H' := Aside0.mk H
    clear H
    have p152 : 0 ≤ (x53_3 : Int) := of_decide_eq_true (by first | (with_reducible assumption) | assumption)
    have q152 : x53_3 < (l0_2.length : Int) := of_decide_eq_true (by first | (with_reducible assumption) | assumption)
    obtain ⟨ad152, e152, hx152_0, hx152_1, hx152_2, hx152_3, hx152_4⟩ := at_T58 HR0_2.out x53_3 p152 q152
    cases e152
    replace hx152_0 := hc HB.out hx152_0
    replace hx152_1 := hc HB.out hx152_1
    replace hx152_2 := hc HB.out hx152_2
    replace hx152_3 := hc HB.out hx152_3
    replace hx152_4 := hc HB.out hx152_4
    replace p152 := eq_true p152
    replace q152 := eq_true q152
    try go_wp2_with ((with_reducible refine gate_dst (N := 9) rfl ?_); (try (refine gate_guard (by rfl) ?_; dsimp only)); refine box_event ?hg (N := 9) ?hd (cs := #[.string (⟨#[]⟩ : ByteArray), .int .i64 0, .int .i64 0, .int .i64 0, .bool false]) (t := 58) ?hr ?_; (case hd => rfl); (case hg => rfl); (case hr => first | (go_simp; done) | (go_simp; rfl)); intro gb153 hg w45 hbox hb; have n0_ := Aside0.mk (bb BK146.out hb); have n1_ := Aside0.mk (bb BK147.out hb); have n2_ := Aside0.mk (below_step bl hb); have n3_ := Aside0.mk (hbox); have n4_ := Aside0.mk (ge (w := w) hg); have n5_ := Aside0.mk (ge (w := w) hg); have n6_ := Aside0.mk (nl hg (bk BK146.out)); have n7_ := Aside0.mk (ng hg (bk BK146.out)); have n8_ := Aside0.mk (nl hg (bk BK147.out)); have n9_ := Aside0.mk (ng hg (bk BK147.out)); clear BK146; clear BK147; clear HB; have BK146 := n0_; have BK147 := n1_; have HB := n2_; have BK153 := n3_; have GE153 := n5_; have NB146_153 := n6_; have NB153_146 := n7_; have NB147_153 := n8_; have NB153_147 := n9_; clear n0_ n1_ n2_ n3_ n4_ n5_ n6_ n7_ n8_ n9_; clear hb hbox hg; obtain ⟨hcz48_0, hcz48_1, hcz48_2, hcz48_3, hcz48_4, hfz48_0, hfz48_1, hfz48_2, hfz48_3, hfz48_4⟩ := bz5 BK153.out)
    have n0_ : Aside0 ((((((w45.setCell ⟨gb153, 0, none⟩ (.string ((rd_T58 l0_2 x53_3).f0))).setCell ⟨gb153, 1, none⟩ (.int .i64 ((rd_T58 l0_2 x53_3).f1))).setCell ⟨gb153, 2, none⟩ (.int .i64 ((rd_T58 l0_2 x53_3).f2))).setCell ⟨gb153, 3, none⟩ (.int .i64 ((rd_T58 l0_2 x53_3).f3))).setCell ⟨gb153, 4, none⟩ (.bool ((rd_T58 l0_2 x53_3).f4))).heap[gb146]? = some (.cells #[.slice A0_0 l0_0.length c0_0, .slice A0_1 l0_1.length c0_1, .slice (some ad152) l0_2.length c0_2, .slice A0_3 l0_3.length c0_3, .slice A0_4 l0_4.length c0_4] 27 (0, 0))) := ⟨bf BK146.out⟩
    have n1_ : Aside0 ((((((w45.setCell ⟨gb153, 0, none⟩ (.string ((rd_T58 l0_2 x53_3).f0))).setCell ⟨gb153, 1, none⟩ (.int .i64 ((rd_T58 l0_2 x53_3).f1))).setCell ⟨gb153, 2, none⟩ (.int .i64 ((rd_T58 l0_2 x53_3).f2))).setCell ⟨gb153, 3, none⟩ (.int .i64 ((rd_T58 l0_2 x53_3).f3))).setCell ⟨gb153, 4, none⟩ (.bool ((rd_T58 l0_2 x53_3).f4))).heap[gb147]? = some (.cells #[.slice A1_0 l1_0.length c1_0, .slice A1_1 l1_1.length c1_1, .slice A1_2 l1_2.length c1_2, .slice A1_3 l1_3.length c1_3, .slice A1_4 l1_4.length c1_4] 32 (0, 0))) := ⟨bf BK147.out⟩
    have n2_ : Aside0 ((((((w45.setCell ⟨gb153, 0, none⟩ (.string ((rd_T58 l0_2 x53_3).f0))).setCell ⟨gb153, 1, none⟩ (.int .i64 ((rd_T58 l0_2 x53_3).f1))).setCell ⟨gb153, 2, none⟩ (.int .i64 ((rd_T58 l0_2 x53_3).f2))).setCell ⟨gb153, 3, none⟩ (.int .i64 ((rd_T58 l0_2 x53_3).f3))).setCell ⟨gb153, 4, none⟩ (.bool ((rd_T58 l0_2 x53_3).f4))).heap[gb153]? = some (.cells #[.string ((rd_T58 l0_2 x53_3).f0), .int .i64 ((rd_T58 l0_2 x53_3).f1), .int .i64 ((rd_T58 l0_2 x53_3).f2), .int .i64 ((rd_T58 l0_2 x53_3).f3), .bool ((rd_T58 l0_2 x53_3).f4)] 58 (0, 0))) := ⟨by (with_reducible repeat (first | refine blk_drewN ?_ _ | refine blk_drew ?_ | refine blk_alloc ?_ _)); refine blk_put (cs := #[.string ((rd_T58 l0_2 x53_3).f0), .int .i64 ((rd_T58 l0_2 x53_3).f1), .int .i64 ((rd_T58 l0_2 x53_3).f2), .int .i64 ((rd_T58 l0_2 x53_3).f3), .bool false]) ?_ 4 _ rfl; (with_reducible repeat (first | refine blk_drewN ?_ _ | refine blk_drew ?_ | refine blk_alloc ?_ _)); refine blk_put (cs := #[.string ((rd_T58 l0_2 x53_3).f0), .int .i64 ((rd_T58 l0_2 x53_3).f1), .int .i64 ((rd_T58 l0_2 x53_3).f2), .int .i64 0, .bool false]) ?_ 3 _ rfl; (with_reducible repeat (first | refine blk_drewN ?_ _ | refine blk_drew ?_ | refine blk_alloc ?_ _)); refine blk_put (cs := #[.string ((rd_T58 l0_2 x53_3).f0), .int .i64 ((rd_T58 l0_2 x53_3).f1), .int .i64 0, .int .i64 0, .bool false]) ?_ 2 _ rfl; (with_reducible repeat (first | refine blk_drewN ?_ _ | refine blk_drew ?_ | refine blk_alloc ?_ _)); refine blk_put (cs := #[.string ((rd_T58 l0_2 x53_3).f0), .int .i64 0, .int .i64 0, .int .i64 0, .bool false]) ?_ 1 _ rfl; (with_reducible repeat (first | refine blk_drewN ?_ _ | refine blk_drew ?_ | refine blk_alloc ?_ _)); refine blk_put (cs := #[.string (⟨#[]⟩ : ByteArray), .int .i64 0, .int .i64 0, .int .i64 0, .bool false]) ?_ 0 _ rfl; (with_reducible repeat (first | refine blk_drewN ?_ _ | refine blk_drew ?_ | refine blk_alloc ?_ _)); exact BK153.out⟩
    have n3_ : Aside0 (Below w.heap.size w (((((w45.setCell ⟨gb153, 0, none⟩ (.string ((rd_T58 l0_2 x53_3).f0))).setCell ⟨gb153, 1, none⟩ (.int .i64 ((rd_T58 l0_2 x53_3).f1))).setCell ⟨gb153, 2, none⟩ (.int .i64 ((rd_T58 l0_2 x53_3).f2))).setCell ⟨gb153, 3, none⟩ (.int .i64 ((rd_T58 l0_2 x53_3).f3))).setCell ⟨gb153, 4, none⟩ (.bool ((rd_T58 l0_2 x53_3).f4)))) := ⟨bl⟩
    (try clear BK146)
    (try clear BK147)
    (try clear BK153)
    (try clear HB)
    generalize (((((w45.setCell ⟨gb153, 0, none⟩ (.string ((rd_T58 l0_2 x53_3).f0))).setCell ⟨gb153, 1, none⟩ (.int .i64 ((rd_T58 l0_2 x53_3).f1))).setCell ⟨gb153, 2, none⟩ (.int .i64 ((rd_T58 l0_2 x53_3).f2))).setCell ⟨gb153, 3, none⟩ (.int .i64 ((rd_T58 l0_2 x53_3).f3))).setCell ⟨gb153, 4, none⟩ (.bool ((rd_T58 l0_2 x53_3).f4))) = w49 at n0_ n1_ n2_ n3_ ⊢
    have BK146 := n0_
    have BK147 := n1_
    have BK153 := n2_
    have HB := n3_
    clear n0_ n1_ n2_ n3_
    have n0_ := Aside0.mk (blk_drew BK146.out)
    have n1_ := Aside0.mk (blk_drew BK147.out)
    have n2_ := Aside0.mk (blk_drew BK153.out)
    have n3_ := Aside0.mk (below_drew1 HB.out)
    clear BK146
    clear BK147
    clear BK153
    clear HB
    have BK146 := n0_
    have BK147 := n1_
    have BK153 := n2_
    have HB := n3_
    clear n0_ n1_ n2_ n3_
    have p154 : 0 ≤ (x53_3 : Int) := of_decide_eq_true (by first | (with_reducible assumption) | assumption)
    have q154 : x53_3 < (l1_1.length : Int) := of_decide_eq_true (by first | (with_reducible assumption) | assumption)
    obtain ⟨ad154, A154_0, c154_0, e154, hx154_0, hl154_0, hi154_0⟩ := at_L10 HR1_1.out x53_3 p154 q154
    have hw154_0 := hx154_0
    cases e154
    replace hx154_0 := hc HB.out hx154_0
    have HR154_0 := Aside0.mk hi154_0
    have HC154_0 := Aside0.mk hl154_0
    clear hi154_0 hl154_0
    replace p154 := eq_true p154
    replace q154 := eq_true q154
    refine start_ (n := 9) (S := fun w' => w'.cell? ⟨gb147, 0, none⟩ = some (.slice A1_0 l1_0.length c1_0) ∧ w'.cell? ⟨gb147, 1, none⟩ = some (.slice (some ad154) l1_1.length c1_1) ∧ w'.cell? ⟨gb147, 2, none⟩ = some (.slice A1_2 l1_2.length c1_2) ∧ w'.cell? ⟨gb147, 3, none⟩ = some (.slice A1_3 l1_3.length c1_3) ∧ w'.cell? ⟨gb147, 4, none⟩ = some (.slice A1_4 l1_4.length c1_4) ∧ w'.cell? ⟨gb153, 0, none⟩ = some (.string ((rd_T58 l0_2 x53_3).f0)) ∧ w'.cell? ⟨gb153, 1, none⟩ = some (.int .i64 ((rd_T58 l0_2 x53_3).f1)) ∧ w'.cell? ⟨gb153, 2, none⟩ = some (.int .i64 ((rd_T58 l0_2 x53_3).f2)) ∧ w'.cell? ⟨gb153, 3, none⟩ = some (.int .i64 ((rd_T58 l0_2 x53_3).f3)) ∧ w'.cell? ⟨gb153, 4, none⟩ = some (.bool ((rd_T58 l0_2 x53_3).f4)) ∧ w'.cell? (ad154.add (x53_3).toNat) = some (.slice A154_0 (rd_L10 l1_1 x53_3).length c154_0)) (ds := []) (zb 0 9) (by kernel_rfl) rfl rfl ⟨(blk_cell BK147.out 0).trans rfl, (blk_cell BK147.out 1).trans rfl, (blk_cell BK147.out 2).trans rfl, (blk_cell BK147.out 3).trans rfl, (blk_cell BK147.out 4).trans rfl, (blk_cell BK153.out 0).trans rfl, (blk_cell BK153.out 1).trans rfl, (blk_cell BK153.out 2).trans rfl, (blk_cell BK153.out 3).trans rfl, (blk_cell BK153.out 4).trans rfl, (hc HB.out hw154_0)⟩ (fun hHeld => ?_); refine with_tabW delay_Check.tab13 delay_Check.bits13 (fun HT_ HW_ => ?_)
    generalize w49.drew = w50 at BK146 BK147 BK153 HB HR154_0 hx154_0 hHeld ⊢
    refine pure_ (i := 0) (N := some 58) (v := ?_) (a' := ?_) (zb 1 8) rfl rfl (any_of HT_.out (by kernel_rfl)) (fun _ _ _ h => h) (Or.inl ⟨by rfl, ?_⟩) ?_ ?_
    rotate_left; focus (intro w'; go_simp; with_reducible rfl)
    rotate_left; focus (simp only [Act.put, z1, z2, z3, i64_w, i32_w]; rfl)
    refine pure_ (i := 2) (N := some 60) (v := ?_) (a' := ?_) #[true,false,true,false,false,false,false,false,false] rfl rfl (any_of HT_.out (by kernel_rfl)) (fun _ _ _ h => h) (Or.inl ⟨by rfl, ?_⟩) ?_ ?_
    rotate_left; focus (intro w'; go_simp; with_reducible rfl)
    rotate_left; focus (simp only [Act.put, z1, z2, z3, i64_w, i32_w]; rfl)
    refine take_ (i := 1) (N := some 59) (v := ?_) (a' := ?_) (zb 3 6) rfl rfl (take_ofW HT_.out HW_.out (by kernel_rfl)) (fun _ _ _ h => h) (Or.inl ⟨by rfl, ?_⟩) hHeld ?_ ?_
    rotate_left
    · rintro w' ⟨s0, s1, s2, s3, s4, s5, s6, s7, s8, s9, s10⟩
      go_simp
      with_reducible rfl
    rotate_left; focus (simp only [Act.put, z1, z2, z3, i64_w, i32_w]; rfl)
    refine pure_ (i := 3) (N := some 61) (v := ?_) (a' := ?_) (zb 4 5) rfl rfl (any_of HT_.out (by kernel_rfl)) (fun _ _ _ h => h) (Or.inl ⟨by rfl, ?_⟩) ?_ ?_
    rotate_left; focus (intro w'; go_simp; with_reducible rfl)
    rotate_left; focus (simp only [Act.put, z1, z2, z3, i64_w, i32_w]; rfl)
    refine take_ (i := 4) (N := some 62) (v := ?_) (a' := ?_) (zb 5 4) rfl rfl (take_ofW HT_.out HW_.out (by kernel_rfl)) (fun _ _ _ h => h) (Or.inl ⟨by rfl, ?_⟩) hHeld ?_ ?_
    rotate_left
    · rintro w' ⟨s0, s1, s2, s3, s4, s5, s6, s7, s8, s9, s10⟩
      go_simp
      with_reducible rfl
    rotate_left; focus (simp only [Act.put, z1, z2, z3, i64_w, i32_w]; rfl)
    refine take_ (i := 5) (N := some 63) (v := ?_) (a' := ?_) (zb 6 3) rfl rfl (take_ofW HT_.out HW_.out (by kernel_rfl)) (fun _ _ _ h => h) (Or.inl ⟨by rfl, ?_⟩) hHeld ?_ ?_
    rotate_left
    · rintro w' ⟨s0, s1, s2, s3, s4, s5, s6, s7, s8, s9, s10⟩
      go_simp
      with_reducible rfl
    rotate_left; focus (simp only [Act.put, z1, z2, z3, i64_w, i32_w]; rfl)
    refine one_ (i := 6) (N := some 64) (zb 7 2) rfl rfl (one_of HT_.out (by kernel_rfl)) (by decide) (fun K hK => ?_)
    refine goes_ Tryd.func17 (by kernel_rfl) rfl #[.agg #[.string ((rd_T58 l0_2 x53_3).f0), .int .i64 ((rd_T58 l0_2 x53_3).f1), .int .i64 ((rd_T58 l0_2 x53_3).f2), .int .i64 ((rd_T58 l0_2 x53_3).f3), .bool ((rd_T58 l0_2 x53_3).f4)]] (by rfl) rfl rfl (by (try simp only [List.map_toArray, List.map_cons, List.map_nil]); first | done | rfl | (simp only [List.length_drop, List.length_take]; rfl)) ?_
    with_reducible refine (delay_Inputs.calls ((rd_T58 l0_2 x53_3).f0) ((rd_T58 l0_2 x53_3).f1) ((rd_T58 l0_2 x53_3).f2) ((rd_T58 l0_2 x53_3).f3) ((rd_T58 l0_2 x53_3).f4) t155 _ A42.out).mono ?_
    rintro e w51 ⟨rfl, hb⟩
    refine ⟨_, rfl, ?_⟩
    have n0_ := Aside0.mk (bb BK146.out hb)
    have n1_ := Aside0.mk (bb BK147.out hb)
    have n2_ := Aside0.mk (bb BK153.out hb)
    have n3_ := Aside0.mk (below_step bl hb)
    clear BK146
    clear BK147
    clear BK153
    clear HB
    have BK146 := n0_
    have BK147 := n1_
    have BK153 := n2_
    have HB := n3_
    clear n0_ n1_ n2_ n3_
    (try clear hb)
    (try clear hb2)
    (try clear hk)
    (try clear hi)
    refine hK.out _ _ ⟨(blk_cell BK147.out 0).trans rfl, (blk_cell BK147.out 1).trans rfl, (blk_cell BK147.out 2).trans rfl, (blk_cell BK147.out 3).trans rfl, (blk_cell BK147.out 4).trans rfl, (blk_cell BK153.out 0).trans rfl, (blk_cell BK153.out 1).trans rfl, (blk_cell BK153.out 2).trans rfl, (blk_cell BK153.out 3).trans rfl, (blk_cell BK153.out 4).trans rfl, (hc HB.out hw154_0)⟩ (fun hHeld => ?_)
    clear hK K
    refine norm_ (a' := ?_) ?_ ?_
    rotate_left; focus (show Act.put _ (some 64) _ = _; simp only [Act.put, z1, z2, z3, i64_w, i32_w]; rfl)
    refine one_ (i := 7) (N := some 65) (zb 8 1) rfl rfl (one_of HT_.out (by kernel_rfl)) (by decide) (fun K hK => ?_)
    refine goes_ Tryd.func25 (by kernel_rfl) rfl #[.slice A154_0 (rd_L10 l1_1 x53_3).length c154_0, .int .i64 t155] (by rfl) rfl rfl (by (try simp only [List.map_toArray, List.map_cons, List.map_nil]); first | done | rfl | (simp only [List.length_drop, List.length_take]; rfl)) ?_
    with_reducible refine (delay_all.calls k3 _ _ (rd_L10 l1_1 x53_3) t155 t156 _ ?side1 ?side2 A43.out).mono ?_
    (case side1 => exact kc (Kd.C_below HR154_0.out HB.out))
    (case side2 => exact HC154_0.out)
    rintro e w52 ⟨rfl, hb⟩
    refine ⟨_, rfl, ?_⟩
    have n0_ := Aside0.mk (bb BK146.out hb)
    have n1_ := Aside0.mk (bb BK147.out hb)
    have n2_ := Aside0.mk (bb BK153.out hb)
    have n3_ := Aside0.mk (below_step bl hb)
    clear BK146
    clear BK147
    clear BK153
    clear HB
    have BK146 := n0_
    have BK147 := n1_
    have BK153 := n2_
    have HB := n3_
    clear n0_ n1_ n2_ n3_
    (try clear hb)
    (try clear hb2)
    (try clear hk)
    (try clear hi)
    refine hK.out _ _ ⟨(blk_cell BK147.out 0).trans rfl, (blk_cell BK147.out 1).trans rfl, (blk_cell BK147.out 2).trans rfl, (blk_cell BK147.out 3).trans rfl, (blk_cell BK147.out 4).trans rfl, (blk_cell BK153.out 0).trans rfl, (blk_cell BK153.out 1).trans rfl, (blk_cell BK153.out 2).trans rfl, (blk_cell BK153.out 3).trans rfl, (blk_cell BK153.out 4).trans rfl, (hc HB.out hw154_0)⟩ (fun hHeld => ?_)
    clear hK K
    refine norm_ (a' := ?_) ?_ ?_
    rotate_left; focus (show Act.put _ (some 65) _ = _; simp only [Act.put, z1, z2, z3, i64_w, i32_w]; rfl)
    refine pure_ (i := 8) (N := some 10) (v := ?_) (a' := ?_) (zb 9 0) rfl rfl (any_of HT_.out (by kernel_rfl)) (fun _ _ _ h => h) (Or.inl ⟨by rfl, ?_⟩) ?_ ?_
    rotate_left; focus (intro w'; go_simp; with_reducible rfl)
    rotate_left; focus (simp only [Act.put, z1, z2, z3, i64_w, i32_w]; rfl)
    refine done_ (done_of HT_.out (by kernel_rfl)) ?_
    try go_wp2
    go_roundg k3
    case measure => have := HJ2.out; have := HK2.out; have := HK3.out; omega
    case rel => exact ⟨(wrap64 (x53_3 + 1)), (by first | rfl | (simp; done) | (simp [*]; done)), H', ⟨by have := HJ2.out; have := HK2.out; have := HK3.out; omega⟩, ⟨bk BK146.out⟩, ⟨bk BK147.out⟩, ⟨bl⟩⟩

end Go.Proofs.YtlegjcagkmjfjaaDoor.PT
