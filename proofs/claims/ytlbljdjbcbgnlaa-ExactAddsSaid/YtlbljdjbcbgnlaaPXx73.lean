-- PRINTED by print.py (a twelfth state) out of the translation. Not trusted: Lean checks it.
import Derived.Test.YtlbljdjbcbgnlaaCmp
import Derived.Test.YtlbljdjbcbgnlaaPXx0
import Derived.Test.YtlbljdjbcbgnlaaPXx66
import Derived.Test.YtlbljdjbcbgnlaaPXx9
import Derived.Test.YtlbljdjbcbgnlaaPXx12
import Derived.Test.YtlbljdjbcbgnlaaPXx40
import Derived.Test.YtlbljdjbcbgnlaaPXx13
import Derived.Test.YtlbljdjbcbgnlaaPXx45
namespace Go.Proofs.Ytlbljdjbcbgnlaa.PX
open Go.RowKit Go.Proofs.YtlbljdjbcbgnlaaW.PrintWords Go.Proofs.YtlbljdjbcbgnlaaW.PrintLast Go.Proofs.YtlbljdjbcbgnlaaW.PrintMore
attribute [local go_sem] max2_int min2_int max_two min_two max_three min_three max_four min_four   -- for this text's walks alone
set_option linter.unusedVariables false
set_option linter.unusedSimpArgs false

/-! ### masklaw4_both: function 39 -/
def masklaw4_both.j0 : Nat → ByteArray → ByteArray → Bool → Option (Bool × List Int × Bool × List Int × Bool)
 | 0, _, _, _ => none
 | k + 1, x0, x1, x28 => if x28 = true then (some (false, ([] : List Int), false, ([] : List Int), false)) else ((exact_Read.f k x0).bind fun bt461 => ((exact_Read.f k x1).bind fun bt467 => (some (bt461.1, bt461.2.1, bt467.1, bt467.2.1, true))))
def masklaw4_both.f (k : Nat) (a0 : ByteArray) (a1 : ByteArray) : Option (Bool × List Int × Bool × List Int × Bool) := if (a0.size : Int) > 300 then (masklaw4_both.j0 k a0 a1 true) else (if (a1.size : Int) > 300 then (masklaw4_both.j0 k a0 a1 true) else ((maskref4_IsDec.f k a0).bind fun t459 => (if t459 = true then ((maskref4_IsDec.f k a1).bind fun t460 => (masklaw4_both.j0 k a0 a1 (!t460))) else (masklaw4_both.j0 k a0 a1 true))))
theorem masklaw4_both.mono_l : ∀ k, (∀ y0 y1 y2, LeO (masklaw4_both.j0 k y0 y1 y2) (masklaw4_both.j0 (k + 1) y0 y1 y2))
 | 0 => fun _ _ _ r h => by simp [masklaw4_both.j0] at h
 | k + 1 => by
  have ih0 := masklaw4_both.mono_l k
  · intro y0 y1 y2
    unfold masklaw4_both.j0
    repeat' first
    | (with_reducible exact ih0 _ _ _)
    | (with_reducible exact exact_Read.mono _ _)
    | (with_reducible exact LeO.refl _)
    | (with_reducible exact LeO.none _)
    | (with_reducible refine LeO.ite ?_ ?_)
    | (with_reducible refine LeO.bind ?_ (fun _ => ?_))
theorem masklaw4_both.mono : ∀ a0 a1 k, LeO (masklaw4_both.f k a0 a1) (masklaw4_both.f (k + 1) a0 a1) := by
 intro a0 a1 k
 have ih0 := masklaw4_both.mono_l k
 unfold masklaw4_both.f
 repeat' first
  | (with_reducible exact ih0 _ _ _)
  | (with_reducible exact maskref4_IsDec.mono _ _)
  | (with_reducible exact LeO.refl _)
  | (with_reducible exact LeO.none _)
  | (with_reducible refine LeO.ite ?_ ?_)
  | (with_reducible refine LeO.bind ?_ (fun _ => ?_))
set_option maxHeartbeats 8000000 in
set_option maxRecDepth 100000 in
theorem masklaw4_both.calls (k : Nat) (a0 : ByteArray) (a1 : ByteArray) (r1 : Bool) (r2 : List Int) (r3 : Bool) (r4 : List Int) (r5 : Bool) (w : World) (h : masklaw4_both.f k a0 a1 = some (r1, r2, r3, r4, r5)) :
 Calls Try.prog 39 #[.string a0, .string a1] w fun e w' => ∃ v1_ v3_ : Value, e = .returned (.tuple #[.agg #[.bool r1, v1_], .agg #[.bool r3, v3_], .bool r5]) ∧ Kd.V (Kd.int .u32) 97 w' w.heap.size (fun k_ => (w.heap.size ≤ k_)) v1_ r2 ∧ Kd.V (Kd.int .u32) 97 w' w.heap.size (fun k_ => (w.heap.size ≤ k_)) v3_ r4 ∧ Below w.heap.size w w' := by
 have HB := Aside0.mk (Below.refl w.heap.size w)
 have H : (if (a0.size : Int) > 300 then (masklaw4_both.j0 k a0 a1 true) else (if (a1.size : Int) > 300 then (masklaw4_both.j0 k a0 a1 true) else ((maskref4_IsDec.f k a0).bind fun t459 => (if t459 = true then ((maskref4_IsDec.f k a1).bind fun t460 => (masklaw4_both.j0 k a0 a1 (!t460))) else (masklaw4_both.j0 k a0 a1 true))))) = some (r1, r2, r3, r4, r5) := h
 clear h
 have HC3 := Aside0.mk H
 clear H
 go_enter Try.func39, Try.ntmps39
 go_upto_region 1 with (first | ((with_reducible refine gate_dst (N := 4) rfl ?_); (try (refine gate_guard (by rfl) ?_; dsimp only)); refine box_event ?hg (N := 4) ?hd (cs := #[.bool false, .slice none 0 0]) (t := 43) ?hr ?_; (case hd => rfl); (case hg => rfl); (case hr => first | (go_simp; done) | (go_simp; rfl)); intro gb457 hg w4 hbox hb; have BK457 := Aside0.mk (hbox); have GE457 := Aside0.mk (ge (w := w) hg); replace HB := Aside0.mk (below_step bl hb); clear hb hbox hg) | ((with_reducible refine gate_dst (N := 5) rfl ?_); (try (refine gate_guard (by rfl) ?_; dsimp only)); refine box_event ?hg (N := 5) ?hd (cs := #[.bool false, .slice none 0 0]) (t := 43) ?hr ?_; (case hd => rfl); (case hg => rfl); (case hr => first | (go_simp; done) | (go_simp; rfl)); intro gb458 hg w5 hbox hb; have BK458 := Aside0.mk (hbox); have GE458 := Aside0.mk (ge (w := w) hg); replace HB := Aside0.mk (below_step bl hb); have NB457_458 := Aside0.mk (nl hg (bk BK457.out)); have NB458_457 := Aside0.mk (ng hg (bk BK457.out)); replace BK457 := Aside0.mk (bb BK457.out hb); clear hb hbox hg))
 (try simp only [Act.put, List.setIfInBounds_toArray, List.set_cons_zero, List.set_cons_succ])
 go_cut [28] (fun v28 wc => ∃ (kq : Nat) (x28_2 : Bool), v28 = .bool x28_2 ∧ Aside0 (masklaw4_both.j0 kq a0 a1 x28_2 = some (r1, r2, r3, r4, r5)) ∧ Aside0 (kq ≤ k) ∧ Aside0 (wc.heap[gb457]? = some (.cells #[.bool false, (.slice none 0 0)] 43 (0, 0))) ∧ Aside0 (wc.heap[gb458]? = some (.cells #[.bool false, (.slice none 0 0)] 43 (0, 0))) ∧ Aside0 (Below w.heap.size w wc))
 case first =>
  have H := HC3.out
  clear HC3
  by_cases c6 : (a0.size : Int) > 300
  · rw [if_pos c6] at H
    have c6b0 : decide (300 < (a0.size : Int)) = true := decide_eq_true c6
    clear c6
    (first | rw [c6b0] | (simp only [i64_w, i32_w]; rw [c6b0]) | skip)
    have H' := Aside0.mk H
    clear H
    go_wp2
    go_meet
    case rel => exact ⟨_, (true), (by first | rfl | (simp; done) | (simp [*]; done)), H', ⟨by first | omega | exact Nat.le_refl _⟩, ⟨bk BK457.out⟩, ⟨bk BK458.out⟩, ⟨bl⟩⟩
  rw [if_neg c6] at H
  have c6b0 : decide (300 < (a0.size : Int)) = false := decide_eq_false c6
  have c6b1 : decide (300 < a0.size) = false := decide_eq_false (by omega)
  clear c6
  (first | rw [c6b0] | (simp only [i64_w, i32_w]; rw [c6b0]) | skip)
  by_cases c7 : (a1.size : Int) > 300
  · rw [if_pos c7] at H
    have c7b0 : decide (300 < (a1.size : Int)) = true := decide_eq_true c7
    clear c7
    have H' := Aside0.mk H
    clear H
    go_wp2
    go_meet
    case rel => exact ⟨_, (true), (by first | rfl | (simp; done) | (simp [*]; done)), H', ⟨by first | omega | exact Nat.le_refl _⟩, ⟨bk BK457.out⟩, ⟨bk BK458.out⟩, ⟨bl⟩⟩
  rw [if_neg c7] at H
  have c7b0 : decide (300 < (a1.size : Int)) = false := decide_eq_false c7
  clear c7
  replace H := Option.bind_eq_some_iff.mp H
  obtain ⟨t459, A80, H⟩ := H
  replace H : (if t459 = true then ((maskref4_IsDec.f k a1).bind fun t460 => (masklaw4_both.j0 k a0 a1 (!t460))) else (masklaw4_both.j0 k a0 a1 true)) = some (r1, r2, r3, r4, r5) := H
  have A8 := Aside0.mk A80
  clear A80
  by_cases c9 : t459 = true
  rotate_left
  · replace c9 := Bool.eq_false_iff.mpr c9
    subst c9
    have H1 : (masklaw4_both.j0 k a0 a1 true) = some (r1, r2, r3, r4, r5) := by rw [if_neg (show ¬ (false = true) by decide)] at H; exact H
    clear H
    have H := H1
    clear H1
    have H' := Aside0.mk H
    clear H
    go_wp2_with (go_at_call 35; (with_reducible refine (maskref4_IsDec.calls k a0 false _ A8.out).mono ?_); rintro e w' ⟨rfl, ⟨nd, rfl⟩⟩)
    go_meet
    case rel => exact ⟨_, (true), (by first | rfl | (simp; done) | (simp [*]; done)), H', ⟨by first | omega | exact Nat.le_refl _⟩, ⟨bk BK457.out⟩, ⟨bk BK458.out⟩, ⟨bl⟩⟩
  subst c9
  have H1 : ((maskref4_IsDec.f k a1).bind fun t460 => (masklaw4_both.j0 k a0 a1 (!t460))) = some (r1, r2, r3, r4, r5) := by rw [if_pos rfl] at H; exact H
  clear H
  have H := H1
  clear H1
  replace H := Option.bind_eq_some_iff.mp H
  obtain ⟨t460, A100, H⟩ := H
  replace H : (masklaw4_both.j0 k a0 a1 (!t460)) = some (r1, r2, r3, r4, r5) := H
  have A10 := Aside0.mk A100
  clear A100
  have H' := Aside0.mk H
  clear H
  go_wp2_with (first | (go_at_call 35; (with_reducible refine (maskref4_IsDec.calls k a0 true _ A8.out).mono ?_); rintro e w' ⟨rfl, ⟨nd, rfl⟩⟩) | (go_at_call 35; (with_reducible refine (maskref4_IsDec.calls k a1 t460 _ A10.out).mono ?_); rintro e w' ⟨rfl, ⟨nd, rfl⟩⟩))
  go_meet
  case rel => exact ⟨_, (!t460), (by first | rfl | (simp; done) | (simp [*]; done)), H', ⟨by first | omega | exact Nat.le_refl _⟩, ⟨bk BK457.out⟩, ⟨bk BK458.out⟩, ⟨bl⟩⟩
 clear HC3
 obtain ⟨kq, x28_2, rfl, HA, HJ2, BK457, BK458, HB⟩ := hcut
 cases kq with
 | zero => exact absurd HA.out (by simp [masklaw4_both.j0])
 | succ kj2 =>
  have H := HA.out
  clear HA
  simp only [masklaw4_both.j0] at H
  by_cases c11 : x28_2 = true
  · subst c11
    have H1 : (some (false, ([] : List Int), false, ([] : List Int), false)) = some (r1, r2, r3, r4, r5) := by rw [if_pos rfl] at H; exact H
    clear H
    have H := H1
    clear H1
    simp only [Option.some.injEq, Prod.mk.injEq] at H
    obtain ⟨rfl, rfl, rfl, rfl, rfl⟩ := H
    have hnc12 := NB458_457.out
    obtain ⟨hcz13_0, hcz13_1, hfz13_0, hfz13_1⟩ := bz2 BK457.out
    obtain ⟨hcz14_0, hcz14_1, hfz14_0, hfz14_1⟩ := bz2 BK458.out
    go_wp2
    refine bodyPost_ret (results_list (rs := [.cell 4 43, .cell 5 43, .tmp 6]) rfl (by simp) (.cell gb457 43 #[.bool false, .slice none 0 0] (0, 0) _ rfl (by (with_reducible repeat (first | refine blk_drewN ?_ _ | refine blk_drew ?_ | refine blk_alloc ?_ _)); refine blk_far ?_ NB457_458.out _; (with_reducible repeat (first | refine blk_drewN ?_ _ | refine blk_drew ?_ | refine blk_alloc ?_ _)); refine blk_far ?_ NB457_458.out _; (with_reducible repeat (first | refine blk_drewN ?_ _ | refine blk_drew ?_ | refine blk_alloc ?_ _)); refine blk_put (cs := #[.bool false, .slice none 0 0]) ?_ 1 _ rfl; (with_reducible repeat (first | refine blk_drewN ?_ _ | refine blk_drew ?_ | refine blk_alloc ?_ _)); refine blk_put (cs := #[.bool false, .slice none 0 0]) ?_ 0 _ rfl; (with_reducible repeat (first | refine blk_drewN ?_ _ | refine blk_drew ?_ | refine blk_alloc ?_ _)); exact BK457.out) Try.underlying43 rfl (by kernel_rfl) (.cell gb458 43 #[.bool false, .slice none 0 0] (0, 0) _ rfl (by (with_reducible repeat (first | refine blk_drewN ?_ _ | refine blk_drew ?_ | refine blk_alloc ?_ _)); refine blk_put (cs := #[.bool false, .slice none 0 0]) ?_ 1 _ rfl; (with_reducible repeat (first | refine blk_drewN ?_ _ | refine blk_drew ?_ | refine blk_alloc ?_ _)); refine blk_put (cs := #[.bool false, .slice none 0 0]) ?_ 0 _ rfl; (with_reducible repeat (first | refine blk_drewN ?_ _ | refine blk_drew ?_ | refine blk_alloc ?_ _)); refine blk_far ?_ NB458_457.out _; (with_reducible repeat (first | refine blk_drewN ?_ _ | refine blk_drew ?_ | refine blk_alloc ?_ _)); refine blk_far ?_ NB458_457.out _; (with_reducible repeat (first | refine blk_drewN ?_ _ | refine blk_drew ?_ | refine blk_alloc ?_ _)); exact BK458.out) Try.underlying43 rfl (by kernel_rfl) (.tmp .nil)))) rfl ?_
    exact ⟨_, _, by first | rfl | (simp [errW_none, errW_some] <;> rfl) | (simp [*, errW_none, errW_some] <;> rfl), Kd.V_nil _ _ _ _ _, Kd.V_nil _ _ _ _ _, bl⟩
  replace c11 := Bool.eq_false_iff.mpr c11
  subst c11
  have H1 : ((exact_Read.f kj2 a0).bind fun bt461 => ((exact_Read.f kj2 a1).bind fun bt467 => (some (bt461.1, bt461.2.1, bt467.1, bt467.2.1, true)))) = some (r1, r2, r3, r4, r5) := by rw [if_neg (show ¬ (false = true) by decide)] at H; exact H
  clear H
  have H := H1
  clear H1
  replace H := Option.bind_eq_some_iff.mp H
  obtain ⟨⟨t461, t462, t465⟩, A150, H⟩ := H
  replace H : ((exact_Read.f kj2 a1).bind fun bt467 => (some (t461, t462, bt467.1, bt467.2.1, true))) = some (r1, r2, r3, r4, r5) := H
  have A15 := Aside0.mk A150
  clear A150
  replace H := Option.bind_eq_some_iff.mp H
  obtain ⟨⟨t467, t468, t471⟩, A160, H⟩ := H
  replace H : (some (t461, t462, t467, t468, true)) = some (r1, r2, r3, r4, r5) := H
  have A16 := Aside0.mk A160
  clear A160
  simp only [Option.some.injEq, Prod.mk.injEq] at H
  obtain ⟨rfl, rfl, rfl, rfl, rfl⟩ := H
  try go_wp2_with (first | ((with_reducible refine gate_callee (f := 34) rfl ?_); refine goesL_ (some 33) rfl rfl Try.func34 (by kernel_rfl) rfl #[.string a0] rfl (by (try simp only [List.map_toArray, List.map_cons, List.map_nil]); first | done | rfl | (simp only [List.length_drop, List.length_take]; rfl)) ?_; (with_reducible refine (exact_Read.calls kj2 a0 t461 t462 t465 _ A15.out).mono ?_); rintro e w17 ⟨v463, rfl, ho0, hb⟩; refine ⟨_, rfl, ?_⟩; have HO464 := Aside0.mk (Kd.V_lower (Kd.V_mono (ok' := fun k_ => (w.heap.size ≤ k_) ∧ k_ ≠ gb457 ∧ k_ ≠ gb458) ho0 (fun k_ hk_ => ⟨(Nat.le_trans (below_size bl) hk_), (Kd.freshB (g := gb457) (o := .cells #[.bool false, .slice none 0 0] 43 (0, 0)) (bk BK457.out) k_ hk_), (Kd.freshB (g := gb458) (o := .cells #[.bool false, .slice none 0 0] 43 (0, 0)) (bk BK458.out) k_ hk_)⟩)) (below_size bl)); replace BK457 := Aside0.mk (bb BK457.out hb); replace BK458 := Aside0.mk (bb BK458.out hb); replace HB := Aside0.mk (below_step bl hb); (try clear hb); (try clear ho0)) | ((with_reducible refine gate_dst (N := 7) rfl ?_); (try (refine gate_guard (by rfl) ?_; dsimp only)); refine box_event ?hg (N := 7) ?hd (cs := #[.bool false, .slice none 0 0]) (t := 43) ?hr ?_; (case hd => rfl); (case hg => rfl); (case hr => first | (go_simp; done) | (go_simp; rfl)); intro gb466 hg w18 hbox hb; replace HO464 := Aside0.mk (Kd.V_below (Kd.V_elderB (vk HO464.out) gb466 (Nat.le_of_eq hg.symm)) hb); have BK466 := Aside0.mk (hbox); have GE466 := Aside0.mk (ge (w := w) hg); replace HB := Aside0.mk (below_step bl hb); have NB457_466 := Aside0.mk (nl hg (bk BK457.out)); have NB466_457 := Aside0.mk (ng hg (bk BK457.out)); replace BK457 := Aside0.mk (bb BK457.out hb); have NB458_466 := Aside0.mk (nl hg (bk BK458.out)); have NB466_458 := Aside0.mk (ng hg (bk BK458.out)); replace BK458 := Aside0.mk (bb BK458.out hb); clear hb hbox hg; obtain ⟨hcz21_0, hcz21_1, hfz21_0, hfz21_1⟩ := bz2 BK466.out; obtain ⟨Ao22, co22, eo22⟩ := Kd.V_slice HO464.out; subst eo22) | ((with_reducible refine gate_callee (f := 34) rfl ?_); refine goesL_ (some 38) rfl rfl Try.func34 (by kernel_rfl) rfl #[.string a1] rfl (by (try simp only [List.map_toArray, List.map_cons, List.map_nil]); first | done | rfl | (simp only [List.length_drop, List.length_take]; rfl)) ?_; (with_reducible refine (exact_Read.calls kj2 a1 t467 t468 t471 _ A16.out).mono ?_); rintro e w23 ⟨v469, rfl, ho0, hb⟩; refine ⟨_, rfl, ?_⟩; replace HO464 := Aside0.mk (Kd.V_below (by (with_reducible repeat (first | apply Kd.V_alloc | apply Kd.V_drewN | apply Kd.V_drew)); exact (Kd.V_mono (Kd.V_far (p := ⟨gb466, 1, none⟩) (Kd.V_far (p := ⟨gb466, 0, none⟩) (Kd.V_mono HO464.out (fun k_ hk => (⟨hk, hk.2⟩ : _ ∧ k_ ≠ gb466))) (fun _ hk => hk.2) (.bool t461)) (fun _ hk => hk.2) (.slice Ao22 t462.length co22)) (fun _ h_ => h_.1))) hb); have HO470 := Aside0.mk (Kd.V_lower (Kd.V_mono (ok' := fun k_ => (w.heap.size ≤ k_) ∧ k_ ≠ gb457 ∧ k_ ≠ gb458 ∧ k_ ≠ gb466) ho0 (fun k_ hk_ => ⟨(Nat.le_trans (below_size bl) hk_), (Kd.freshB (g := gb457) (o := .cells #[.bool false, .slice none 0 0] 43 (0, 0)) (bf BK457.out) k_ hk_), (Kd.freshB (g := gb458) (o := .cells #[.bool false, .slice none 0 0] 43 (0, 0)) (bf BK458.out) k_ hk_), (Kd.freshB (g := gb466) (o := .cells #[.bool t461, .slice Ao22 t462.length co22] 43 (0, 0)) (by (with_reducible repeat (first | refine blk_drewN ?_ _ | refine blk_drew ?_ | refine blk_alloc ?_ _)); refine blk_put (cs := #[.bool t461, .slice none 0 0]) ?_ 1 _ rfl; (with_reducible repeat (first | refine blk_drewN ?_ _ | refine blk_drew ?_ | refine blk_alloc ?_ _)); refine blk_put (cs := #[.bool false, .slice none 0 0]) ?_ 0 _ rfl; (with_reducible repeat (first | refine blk_drewN ?_ _ | refine blk_drew ?_ | refine blk_alloc ?_ _)); exact BK466.out) k_ hk_)⟩)) (below_size bl)); replace BK457 := Aside0.mk (blk_below (bf BK457.out) hb); replace BK458 := Aside0.mk (blk_below (bf BK458.out) hb); replace BK466 := Aside0.mk (blk_below (g := gb466) (o := .cells #[.bool t461, .slice Ao22 t462.length co22] 43 (0, 0)) (by (with_reducible repeat (first | refine blk_drewN ?_ _ | refine blk_drew ?_ | refine blk_alloc ?_ _)); refine blk_put (cs := #[.bool t461, .slice none 0 0]) ?_ 1 _ rfl; (with_reducible repeat (first | refine blk_drewN ?_ _ | refine blk_drew ?_ | refine blk_alloc ?_ _)); refine blk_put (cs := #[.bool false, .slice none 0 0]) ?_ 0 _ rfl; (with_reducible repeat (first | refine blk_drewN ?_ _ | refine blk_drew ?_ | refine blk_alloc ?_ _)); exact BK466.out) hb); replace HB := Aside0.mk (below_step bl hb); (try clear hb); (try clear ho0)) | ((with_reducible refine gate_dst (N := 9) rfl ?_); (try (refine gate_guard (by rfl) ?_; dsimp only)); refine box_event ?hg (N := 9) ?hd (cs := #[.bool false, .slice none 0 0]) (t := 43) ?hr ?_; (case hd => rfl); (case hg => rfl); (case hr => first | (go_simp; done) | (go_simp; rfl)); intro gb472 hg w24 hbox hb; replace HO464 := Aside0.mk (Kd.V_below (Kd.V_elderB (vk HO464.out) gb472 (Nat.le_of_eq hg.symm)) hb); replace HO470 := Aside0.mk (Kd.V_below (Kd.V_elderB (vk HO470.out) gb472 (Nat.le_of_eq hg.symm)) hb); have BK472 := Aside0.mk (hbox); have GE472 := Aside0.mk (ge (w := w) hg); replace HB := Aside0.mk (below_step bl hb); have NB457_472 := Aside0.mk (nl hg (bk BK457.out)); have NB472_457 := Aside0.mk (ng hg (bk BK457.out)); replace BK457 := Aside0.mk (bb BK457.out hb); have NB458_472 := Aside0.mk (nl hg (bk BK458.out)); have NB472_458 := Aside0.mk (ng hg (bk BK458.out)); replace BK458 := Aside0.mk (bb BK458.out hb); have NB466_472 := Aside0.mk (nl hg (bk BK466.out)); replace BK466 := Aside0.mk (bb BK466.out hb); clear hb hbox hg; obtain ⟨hcz28_0, hcz28_1, hfz28_0, hfz28_1⟩ := bz2 BK472.out; obtain ⟨Ao29, co29, eo29⟩ := Kd.V_slice HO470.out; subst eo29))
  have n0_ : Aside0 (Kd.V (Kd.int .u32) 97 ((w24.setCell ⟨gb472, 0, none⟩ (.bool t467)).setCell ⟨gb472, 1, none⟩ (.slice Ao29 t468.length co29)) w.heap.size (fun k_ => (w.heap.size ≤ k_) ∧ k_ ≠ gb457 ∧ k_ ≠ gb458 ∧ k_ ≠ gb466 ∧ k_ ≠ gb472) (.slice Ao22 t462.length co22) t462) := ⟨by (with_reducible repeat (first | apply Kd.V_alloc | apply Kd.V_drewN | apply Kd.V_drew)); exact Kd.V_mono (Kd.V_far (p := ⟨gb472, 1, none⟩) (Kd.V_far (p := ⟨gb472, 0, none⟩) (Kd.V_mono HO464.out (fun k_ hk => (⟨hk, hk.2⟩ : _ ∧ k_ ≠ gb472))) (fun _ hk => hk.2) (.bool t467)) (fun _ hk => hk.2) (.slice Ao29 t468.length co29)) (fun _ hk => ⟨hk.1.1.1.1, ⟨hk.1.1.1.2.1, ⟨hk.1.1.1.2.2, ⟨hk.1.1.2, hk.1.2⟩⟩⟩⟩)⟩
  have n1_ : Aside0 (Kd.V (Kd.int .u32) 97 ((w24.setCell ⟨gb472, 0, none⟩ (.bool t467)).setCell ⟨gb472, 1, none⟩ (.slice Ao29 t468.length co29)) w.heap.size (fun k_ => (w.heap.size ≤ k_) ∧ k_ ≠ gb457 ∧ k_ ≠ gb458 ∧ k_ ≠ gb466 ∧ k_ ≠ gb472) (.slice Ao29 t468.length co29) t468) := ⟨by (with_reducible repeat (first | apply Kd.V_alloc | apply Kd.V_drewN | apply Kd.V_drew)); exact Kd.V_mono (Kd.V_far (p := ⟨gb472, 1, none⟩) (Kd.V_far (p := ⟨gb472, 0, none⟩) (Kd.V_mono HO470.out (fun k_ hk => (⟨hk, hk.2⟩ : _ ∧ k_ ≠ gb472))) (fun _ hk => hk.2) (.bool t467)) (fun _ hk => hk.2) (.slice Ao29 t468.length co29)) (fun _ hk => ⟨hk.1.1.1, ⟨hk.1.1.2.1, ⟨hk.1.1.2.2.1, ⟨hk.1.1.2.2.2, hk.1.2⟩⟩⟩⟩)⟩
  have n2_ : Aside0 (((w24.setCell ⟨gb472, 0, none⟩ (.bool t467)).setCell ⟨gb472, 1, none⟩ (.slice Ao29 t468.length co29)).heap[gb457]? = some (.cells #[.bool false, .slice none 0 0] 43 (0, 0))) := ⟨bf BK457.out⟩
  have n3_ : Aside0 (((w24.setCell ⟨gb472, 0, none⟩ (.bool t467)).setCell ⟨gb472, 1, none⟩ (.slice Ao29 t468.length co29)).heap[gb458]? = some (.cells #[.bool false, .slice none 0 0] 43 (0, 0))) := ⟨bf BK458.out⟩
  have n4_ : Aside0 (((w24.setCell ⟨gb472, 0, none⟩ (.bool t467)).setCell ⟨gb472, 1, none⟩ (.slice Ao29 t468.length co29)).heap[gb466]? = some (.cells #[.bool t461, .slice Ao22 t462.length co22] 43 (0, 0))) := ⟨bf BK466.out⟩
  have n5_ : Aside0 (((w24.setCell ⟨gb472, 0, none⟩ (.bool t467)).setCell ⟨gb472, 1, none⟩ (.slice Ao29 t468.length co29)).heap[gb472]? = some (.cells #[.bool t467, .slice Ao29 t468.length co29] 43 (0, 0))) := ⟨by (with_reducible repeat (first | refine blk_drewN ?_ _ | refine blk_drew ?_ | refine blk_alloc ?_ _)); refine blk_put (cs := #[.bool t467, .slice none 0 0]) ?_ 1 _ rfl; (with_reducible repeat (first | refine blk_drewN ?_ _ | refine blk_drew ?_ | refine blk_alloc ?_ _)); refine blk_put (cs := #[.bool false, .slice none 0 0]) ?_ 0 _ rfl; (with_reducible repeat (first | refine blk_drewN ?_ _ | refine blk_drew ?_ | refine blk_alloc ?_ _)); exact BK472.out⟩
  have n6_ : Aside0 (Below w.heap.size w ((w24.setCell ⟨gb472, 0, none⟩ (.bool t467)).setCell ⟨gb472, 1, none⟩ (.slice Ao29 t468.length co29))) := ⟨bl⟩
  (try clear HO464)
  (try clear HO470)
  (try clear BK457)
  (try clear BK458)
  (try clear BK466)
  (try clear BK472)
  (try clear HB)
  generalize ((w24.setCell ⟨gb472, 0, none⟩ (.bool t467)).setCell ⟨gb472, 1, none⟩ (.slice Ao29 t468.length co29)) = w30 at n0_ n1_ n2_ n3_ n4_ n5_ n6_ ⊢
  have HO464 := n0_
  have HO470 := n1_
  have BK457 := n2_
  have BK458 := n3_
  have BK466 := n4_
  have BK472 := n5_
  have HB := n6_
  clear n0_ n1_ n2_ n3_ n4_ n5_ n6_
  replace HO464 := Aside0.mk (Kd.V_drew HO464.out); replace HO470 := Aside0.mk (Kd.V_drew HO470.out); replace BK457 := Aside0.mk (blk_drew BK457.out); replace BK458 := Aside0.mk (blk_drew BK458.out); replace BK466 := Aside0.mk (blk_drew BK466.out); replace BK472 := Aside0.mk (blk_drew BK472.out); replace HB := Aside0.mk (below_drew1 HB.out)
  refine start_ (n := 5) (S := fun w' => w'.cell? ⟨gb466, 0, none⟩ = some (.bool t461) ∧ w'.cell? ⟨gb466, 1, none⟩ = some (.slice Ao22 t462.length co22) ∧ w'.cell? ⟨gb472, 0, none⟩ = some (.bool t467) ∧ w'.cell? ⟨gb472, 1, none⟩ = some (.slice Ao29 t468.length co29)) (ds := []) #[false,false,false,false,false] (by kernel_rfl) rfl rfl ⟨(blk_cell BK466.out 0).trans rfl, (blk_cell BK466.out 1).trans rfl, (blk_cell BK472.out 0).trans rfl, (blk_cell BK472.out 1).trans rfl⟩ (fun hHeld => ?_)
  generalize w30.drew = w31 at HO464 HO470 BK457 BK458 BK466 BK472 HB hHeld ⊢
  refine take_ (i := 0) (N := some 41) (v := ?_) (a' := ?_) #[true,false,false,false,false] rfl rfl (by kernel_rfl) (fun _ _ _ h => h) (Or.inl ⟨by rfl, ?_⟩) hHeld ?_ ?_
  rotate_left
  · rintro w' ⟨s0, s1, s2, s3⟩
    go_simp
    with_reducible rfl
  rotate_left; focus (simp only [Act.put, List.setIfInBounds_toArray, List.set_cons_zero, List.set_cons_succ, i64_w, i32_w]; rfl)
  refine take_ (i := 1) (N := some 42) (v := ?_) (a' := ?_) #[true,true,false,false,false] rfl rfl (by kernel_rfl) (fun _ _ _ h => h) (Or.inl ⟨by rfl, ?_⟩) hHeld ?_ ?_
  rotate_left
  · rintro w' ⟨s0, s1, s2, s3⟩
    go_simp
    with_reducible rfl
  rotate_left; focus (simp only [Act.put, List.setIfInBounds_toArray, List.set_cons_zero, List.set_cons_succ, i64_w, i32_w]; rfl)
  refine one_ (i := 2) (N := none) #[true,true,true,false,false] rfl rfl (by kernel_rfl) (by decide) (fun K hK => ?_)
  have hs32 : w31.cell? ⟨gb457, 0, none⟩ = some (.bool false) := (blk_cell BK457.out 0).trans rfl
  have hfs32 := blk_frozen BK457.out 0
  have hs33 : w31.cell? ⟨gb457, 1, none⟩ = some (.slice none 0 0) := (blk_cell BK457.out 1).trans rfl
  have hfs33 := blk_frozen BK457.out 1
  refine skip_ (w1 := ?_) (by rfl) rfl ?_ ?_
  rotate_left; focus (go_simp; rfl)
  refine hK.out _ _ ⟨((cell_far (p := ⟨gb457, _, none⟩) NB466_457.out _).trans (((cell_far (p := ⟨gb457, _, none⟩) NB466_457.out _).trans (hHeld.1)))), ((cell_far (p := ⟨gb457, _, none⟩) NB466_457.out _).trans (((cell_far (p := ⟨gb457, _, none⟩) NB466_457.out _).trans (hHeld.2.1)))), ((cell_far (p := ⟨gb457, _, none⟩) NB472_457.out _).trans (((cell_far (p := ⟨gb457, _, none⟩) NB472_457.out _).trans (hHeld.2.2.1)))), ((cell_far (p := ⟨gb457, _, none⟩) NB472_457.out _).trans (((cell_far (p := ⟨gb457, _, none⟩) NB472_457.out _).trans (hHeld.2.2.2))))⟩ (fun hHeld => ?_)
  clear hK K
  refine one_ (i := 3) (N := none) #[true,true,true,true,false] rfl rfl (by kernel_rfl) (by decide) (fun K hK => ?_)
  have hs34 : w31.cell? ⟨gb458, 0, none⟩ = some (.bool false) := (blk_cell BK458.out 0).trans rfl
  have hfs34 := blk_frozen BK458.out 0
  have hs35 : w31.cell? ⟨gb458, 1, none⟩ = some (.slice none 0 0) := (blk_cell BK458.out 1).trans rfl
  have hfs35 := blk_frozen BK458.out 1
  have hms35_0 := NB458_457.out
  have hms35_2 := NB458_466.out
  have hms35_3 := NB458_472.out
  refine skip_ (w1 := ?_) (by rfl) rfl ?_ ?_
  rotate_left; focus (go_simp; rfl)
  refine hK.out _ _ ⟨((cell_far (p := ⟨gb458, _, none⟩) NB466_458.out _).trans (((cell_far (p := ⟨gb458, _, none⟩) NB466_458.out _).trans (hHeld.1)))), ((cell_far (p := ⟨gb458, _, none⟩) NB466_458.out _).trans (((cell_far (p := ⟨gb458, _, none⟩) NB466_458.out _).trans (hHeld.2.1)))), ((cell_far (p := ⟨gb458, _, none⟩) NB472_458.out _).trans (((cell_far (p := ⟨gb458, _, none⟩) NB472_458.out _).trans (hHeld.2.2.1)))), ((cell_far (p := ⟨gb458, _, none⟩) NB472_458.out _).trans (((cell_far (p := ⟨gb458, _, none⟩) NB472_458.out _).trans (hHeld.2.2.2))))⟩ (fun hHeld => ?_)
  clear hK K
  refine pure_ (i := 4) (N := some 6) (v := ?_) (a' := ?_) #[true,true,true,true,true] rfl rfl (by kernel_rfl) (fun _ _ _ h => h) (Or.inl ⟨by rfl, ?_⟩) ?_ ?_
  rotate_left; focus (intro w'; go_simp; with_reducible rfl)
  rotate_left; focus (simp only [Act.put, List.setIfInBounds_toArray, List.set_cons_zero, List.set_cons_succ, i64_w, i32_w]; rfl)
  refine done_ (by kernel_rfl) ?_
  try go_wp2
  refine bodyPost_ret (results_list (rs := [.cell 4 43, .cell 5 43, .tmp 6]) rfl (by simp) (.cell gb457 43 #[.bool t461, .slice Ao22 t462.length co22] (0, 0) _ rfl (by (with_reducible repeat (first | refine blk_drewN ?_ _ | refine blk_drew ?_ | refine blk_alloc ?_ _)); refine blk_far ?_ NB457_458.out _; (with_reducible repeat (first | refine blk_drewN ?_ _ | refine blk_drew ?_ | refine blk_alloc ?_ _)); refine blk_far ?_ NB457_458.out _; (with_reducible repeat (first | refine blk_drewN ?_ _ | refine blk_drew ?_ | refine blk_alloc ?_ _)); refine blk_put (cs := #[.bool t461, .slice none 0 0]) ?_ 1 _ rfl; (with_reducible repeat (first | refine blk_drewN ?_ _ | refine blk_drew ?_ | refine blk_alloc ?_ _)); refine blk_put (cs := #[.bool false, .slice none 0 0]) ?_ 0 _ rfl; (with_reducible repeat (first | refine blk_drewN ?_ _ | refine blk_drew ?_ | refine blk_alloc ?_ _)); exact BK457.out) Try.underlying43 rfl (by kernel_rfl) (.cell gb458 43 #[.bool t467, .slice Ao29 t468.length co29] (0, 0) _ rfl (by (with_reducible repeat (first | refine blk_drewN ?_ _ | refine blk_drew ?_ | refine blk_alloc ?_ _)); refine blk_put (cs := #[.bool t467, .slice none 0 0]) ?_ 1 _ rfl; (with_reducible repeat (first | refine blk_drewN ?_ _ | refine blk_drew ?_ | refine blk_alloc ?_ _)); refine blk_put (cs := #[.bool false, .slice none 0 0]) ?_ 0 _ rfl; (with_reducible repeat (first | refine blk_drewN ?_ _ | refine blk_drew ?_ | refine blk_alloc ?_ _)); refine blk_far ?_ NB458_457.out _; (with_reducible repeat (first | refine blk_drewN ?_ _ | refine blk_drew ?_ | refine blk_alloc ?_ _)); refine blk_far ?_ NB458_457.out _; (with_reducible repeat (first | refine blk_drewN ?_ _ | refine blk_drew ?_ | refine blk_alloc ?_ _)); exact BK458.out) Try.underlying43 rfl (by kernel_rfl) (.tmp .nil)))) rfl ?_
  exact ⟨_, _, by first | rfl | (simp [errW_none, errW_some] <;> rfl) | (simp [*, errW_none, errW_some] <;> rfl), by (with_reducible repeat (first | apply Kd.V_alloc | apply Kd.V_drewN | apply Kd.V_drew)); exact Kd.V_mono (Kd.V_far (p := ⟨gb458, 1, none⟩) (Kd.V_far (p := ⟨gb458, 0, none⟩) (Kd.V_far (p := ⟨gb457, 1, none⟩) (Kd.V_far (p := ⟨gb457, 0, none⟩) (Kd.V_mono (Kd.V_mono HO464.out (fun k_ hk => (⟨hk, hk.2.1⟩ : _ ∧ k_ ≠ gb457))) (fun k_ hk => (⟨hk, hk.1.2.2.1⟩ : _ ∧ k_ ≠ gb458))) (fun _ hk => hk.1.2) (.bool t461)) (fun _ hk => hk.1.2) (.slice Ao22 t462.length co22)) (fun _ hk => hk.2) (.bool t467)) (fun _ hk => hk.2) (.slice Ao29 t468.length co29)) (fun _ hk => hk.1.1.1), by (with_reducible repeat (first | apply Kd.V_alloc | apply Kd.V_drewN | apply Kd.V_drew)); exact Kd.V_mono (Kd.V_far (p := ⟨gb458, 1, none⟩) (Kd.V_far (p := ⟨gb458, 0, none⟩) (Kd.V_far (p := ⟨gb457, 1, none⟩) (Kd.V_far (p := ⟨gb457, 0, none⟩) (Kd.V_mono (Kd.V_mono HO470.out (fun k_ hk => (⟨hk, hk.2.1⟩ : _ ∧ k_ ≠ gb457))) (fun k_ hk => (⟨hk, hk.1.2.2.1⟩ : _ ∧ k_ ≠ gb458))) (fun _ hk => hk.1.2) (.bool t461)) (fun _ hk => hk.1.2) (.slice Ao22 t462.length co22)) (fun _ hk => hk.2) (.bool t467)) (fun _ hk => hk.2) (.slice Ao29 t468.length co29)) (fun _ hk => hk.1.1.1), bl⟩

end Go.Proofs.Ytlbljdjbcbgnlaa.PX
namespace Go.Proofs.Ytlbljdjbcbgnlaa.PX
open Go.RowKit Go.Proofs.YtlbljdjbcbgnlaaW.PrintWords Go.Proofs.YtlbljdjbcbgnlaaW.PrintLast Go.Proofs.YtlbljdjbcbgnlaaW.PrintMore
attribute [local go_sem] max2_int min2_int max_two min_two max_three min_three max_four min_four   -- for this text's walks alone
set_option linter.unusedVariables false
set_option linter.unusedSimpArgs false

/-! ### exact_Sub: function 44 -/
def exact_Sub.f (k : Nat) (a0_0 : Bool) (l0_1 : List Int) (a1_0 : Bool) (l1_1 : List Int) : Option (Bool × List Int × Int) := (exact_Neg.f a1_0 l1_1).bind fun bt476 => ((exact_plus.f k a0_0 l0_1 bt476.1 bt476.2).bind fun bt480 => ((exact_fit.f bt480.1 bt480.2).bind fun bt484 => (some (bt484.1, bt484.2.1, bt484.2.2))))
theorem exact_Sub.mono : ∀ a0 a1 a2 a3 k, LeO (exact_Sub.f k a0 a1 a2 a3) (exact_Sub.f (k + 1) a0 a1 a2 a3) := by
 intro a0 a1 a2 a3 k
 unfold exact_Sub.f
 repeat' first
  | (with_reducible exact exact_plus.mono _ _ _ _ _)
  | (with_reducible exact LeO.refl _)
  | (with_reducible exact LeO.none _)
  | (with_reducible refine LeO.ite ?_ ?_)
  | (with_reducible refine LeO.bind ?_ (fun _ => ?_))
  | exact exact_plus.mono _ _ _ _ _
  | exact LeO.none _
  | refine LeO.ite ?_ ?_
  | refine LeO.bind ?_ (fun _ => ?_)
def exact_Sub.T1 : Bool × List (List Nat × List Nat) := (true, [([], []), ([], []), ([1], [1]), ([0, 2, 2], [0, 2]), ([3, 3], [3]), ([4], [4]), ([4], [4]), ([5, 4, 0, 1, 2, 3, 4, 5, 6], [5]), ([6, 7, 0, 1, 2, 3, 4, 5, 6, 7], [6])])
def exact_Sub.B1 : List Nat := [0, 0, 2, 7, 15, 31, 31, 127, 255]
theorem exact_Sub.tab1 : rtab .any (opsOf Try.f44 1) = exact_Sub.T1 := by kernel_rfl
theorem exact_Sub.bits1 : waitsOk exact_Sub.T1.2 exact_Sub.B1 = true := by kernel_rfl
set_option maxHeartbeats 8000000 in
set_option maxRecDepth 100000 in
theorem exact_Sub.calls (k : Nat) (a0_0 : Bool) (A0_1 : Option Addr) (c0_1 : Nat) (l0_1 : List Int) (a1_0 : Bool) (P1_1_ : Nat → Prop) (A1_1 : Option Addr) (c1_1 : Nat) (l1_1 : List Int) (r1 : Bool) (r2 : List Int) (r3 : Int) (w : World) (hr0_1 : Kd.C (Kd.int .u32) w A0_1 l0_1.length l0_1) (hc0_1 : l0_1.length ≤ c0_1) (hs1_1 : Kd.V (Kd.int .u32) 97 w w.heap.size (fun k_ => P1_1_ k_) (.slice A1_1 l1_1.length c1_1) l1_1) (h : exact_Sub.f k a0_0 l0_1 a1_0 l1_1 = some (r1, r2, r3)) :
 Calls Try.prog 44 #[.agg #[.bool a0_0, .slice A0_1 l0_1.length c0_1], .agg #[.bool a1_0, .slice A1_1 l1_1.length c1_1]] w fun e w' => ∃ v1_ : Value, e = .returned (.tuple #[.agg #[.bool r1, v1_], .int .i64 r3]) ∧ Kd.V (Kd.int .u32) 97 w' w.heap.size (fun k_ => (P1_1_ k_ ∨ w.heap.size ≤ k_)) v1_ r2 ∧ Below w.heap.size w w' := by
 have HR0_1 := Aside0.mk hr0_1
 have HC0_1 := Aside0.mk hc0_1
 clear hr0_1 hc0_1
 have HO1_1 := Aside0.mk (show Kd.V (Kd.int .u32) 97 w w.heap.size (fun k_ => (P1_1_ k_ ∨ w.heap.size ≤ k_)) (.slice A1_1 l1_1.length c1_1) l1_1 from Kd.V_mono hs1_1 (fun k_ hk => .inl hk))
 have HB := Aside0.mk (Below.refl w.heap.size w)
 have H : ((exact_Neg.f a1_0 l1_1).bind fun bt476 => ((exact_plus.f k a0_0 l0_1 bt476.1 bt476.2).bind fun bt480 => ((exact_fit.f bt480.1 bt480.2).bind fun bt484 => (some (bt484.1, bt484.2.1, bt484.2.2))))) = some (r1, r2, r3) := h
 clear h
 replace H := Option.bind_eq_some_iff.mp H
 obtain ⟨⟨t476, t477⟩, A30, H⟩ := H
 replace H : ((exact_plus.f k a0_0 l0_1 t476 t477).bind fun bt480 => ((exact_fit.f bt480.1 bt480.2).bind fun bt484 => (some (bt484.1, bt484.2.1, bt484.2.2)))) = some (r1, r2, r3) := H
 have A3 := Aside0.mk A30
 clear A30
 replace H := Option.bind_eq_some_iff.mp H
 obtain ⟨⟨t480, t481⟩, A40, H⟩ := H
 replace H : ((exact_fit.f t480 t481).bind fun bt484 => (some (bt484.1, bt484.2.1, bt484.2.2))) = some (r1, r2, r3) := H
 have A4 := Aside0.mk A40
 clear A40
 replace H := Option.bind_eq_some_iff.mp H
 obtain ⟨⟨t484, t485, t488⟩, A50, H⟩ := H
 replace H : (some (t484, t485, t488)) = some (r1, r2, r3) := H
 have A5 := Aside0.mk A50
 clear A50
 simp only [Option.some.injEq, Prod.mk.injEq] at H
 obtain ⟨rfl, rfl, rfl⟩ := H
 go_enter Try.func44, Try.ntmps44
 try go_wp2_with (first | ((with_reducible refine gate_dst (N := 2) rfl ?_); refine box_event ?hg (N := 2) ?hd (cs := #[.bool a0_0, .slice A0_1 l0_1.length c0_1]) (t := 43) ?hr ?_; (case hd => rfl); (case hg => rfl); (case hr => first | (go_simp; done) | (go_simp; rfl)); intro gb473 hg w6 hbox hb; replace HO1_1 := Aside0.mk (Kd.V_below (Kd.V_elderB (vk HO1_1.out) gb473 (Nat.le_of_eq hg.symm)) hb); have BK473 := Aside0.mk (hbox); replace HB := Aside0.mk (below_step bl hb); clear hb hbox hg) | ((with_reducible refine gate_dst (N := 3) rfl ?_); refine box_event ?hg (N := 3) ?hd (cs := #[.bool a1_0, .slice A1_1 l1_1.length c1_1]) (t := 43) ?hr ?_; (case hd => rfl); (case hg => rfl); (case hr => first | (go_simp; done) | (go_simp; rfl)); intro gb474 hg w7 hbox hb; replace HO1_1 := Aside0.mk (Kd.V_below (Kd.V_elderB (vk HO1_1.out) gb474 (Nat.le_of_eq hg.symm)) hb); have BK474 := Aside0.mk (hbox); replace HB := Aside0.mk (below_step bl hb); replace BK473 := Aside0.mk (bb BK473.out hb); clear hb hbox hg) | ((with_reducible refine gate_dst (N := 4) rfl ?_); refine box_event ?hg (N := 4) ?hd (cs := #[.bool false, .slice none 0 0]) (t := 43) ?hr ?_; (case hd => rfl); (case hg => rfl); (case hr => first | (go_simp; done) | (go_simp; rfl)); intro gb475 hg w8 hbox hb; replace HO1_1 := Aside0.mk (Kd.V_below (Kd.V_elderB (vk HO1_1.out) gb475 (Nat.le_of_eq hg.symm)) hb); have BK475 := Aside0.mk (hbox); have GE475 := Aside0.mk (ge (w := w) hg); replace HB := Aside0.mk (below_step bl hb); have NB473_475 := Aside0.mk (nl hg (bk BK473.out)); have NB475_473 := Aside0.mk (ng hg (bk BK473.out)); replace BK473 := Aside0.mk (bb BK473.out hb); have NB474_475 := Aside0.mk (nl hg (bk BK474.out)); have NB475_474 := Aside0.mk (ng hg (bk BK474.out)); replace BK474 := Aside0.mk (bb BK474.out hb); clear hb hbox hg))
 replace HO1_1 := Aside0.mk (Kd.V_drew HO1_1.out); replace BK473 := Aside0.mk (blk_drew BK473.out); replace BK474 := Aside0.mk (blk_drew BK474.out); replace BK475 := Aside0.mk (blk_drew BK475.out); replace HB := Aside0.mk (below_drew1 HB.out)
 refine start_ (n := 9) (S := fun w' => w'.cell? ⟨gb473, 0, none⟩ = some (.bool a0_0) ∧ w'.cell? ⟨gb473, 1, none⟩ = some (.slice A0_1 l0_1.length c0_1) ∧ w'.cell? ⟨gb474, 0, none⟩ = some (.bool a1_0) ∧ w'.cell? ⟨gb474, 1, none⟩ = some (.slice A1_1 l1_1.length c1_1)) (ds := []) #[false,false,false,false,false,false,false,false,false] (by kernel_rfl) rfl rfl ⟨(blk_cell BK473.out 0).trans rfl, (blk_cell BK473.out 1).trans rfl, (blk_cell BK474.out 0).trans rfl, (blk_cell BK474.out 1).trans rfl⟩ (fun hHeld => ?_); refine with_tabW exact_Sub.tab1 exact_Sub.bits1 (fun HT_ HW_ => ?_)
 generalize w8.drew = w9 at HO1_1 BK473 BK474 BK475 HB hHeld ⊢
 refine take_ (i := 0) (N := some 6) (v := ?_) (a' := ?_) #[true,false,false,false,false,false,false,false,false] rfl rfl (take_ofW HT_.out HW_.out (by kernel_rfl)) (fun _ _ _ h => h) (Or.inl ⟨by rfl, ?_⟩) hHeld ?_ ?_
 rotate_left
 · rintro w' ⟨s0, s1, s2, s3⟩
   go_simp
   with_reducible rfl
 rotate_left; focus (simp only [Act.put, List.setIfInBounds_toArray, List.set_cons_zero, List.set_cons_succ, i64_w, i32_w]; rfl)
 refine take_ (i := 1) (N := some 7) (v := ?_) (a' := ?_) #[true,true,false,false,false,false,false,false,false] rfl rfl (take_ofW HT_.out HW_.out (by kernel_rfl)) (fun _ _ _ h => h) (Or.inl ⟨by rfl, ?_⟩) hHeld ?_ ?_
 rotate_left
 · rintro w' ⟨s0, s1, s2, s3⟩
   go_simp
   with_reducible rfl
 rotate_left; focus (simp only [Act.put, List.setIfInBounds_toArray, List.set_cons_zero, List.set_cons_succ, i64_w, i32_w]; rfl)
 refine one_ (i := 2) (N := some 8) #[true,true,true,false,false,false,false,false,false] rfl rfl (one_of HT_.out (by kernel_rfl)) (by decide) (fun K hK => ?_)
 refine goes_ Try.func37 (by kernel_rfl) rfl #[.agg #[.bool a1_0, .slice A1_1 l1_1.length c1_1]] (by rfl) rfl rfl (by (try simp only [List.map_toArray, List.map_cons, List.map_nil]); first | done | rfl | (simp only [List.length_drop, List.length_take]; rfl)) ?_
 with_reducible refine (exact_Neg.calls a1_0 (fun k_ => ((((P1_1_ k_ ∨ w.heap.size ≤ k_) ∧ k_ ≠ gb473) ∧ k_ ≠ gb474) ∧ k_ ≠ gb475)) _ _ l1_1 t476 t477 _ ?side1 A3.out).mono ?_
 (case side1 => exact HO1_1.out)
 rintro e w10 ⟨v478, rfl, ho0, hb⟩
 refine ⟨_, rfl, ?_⟩
 replace HO1_1 := Aside0.mk (vb HO1_1.out hb); have HO479 := Aside0.mk (Kd.V_lower (Kd.V_mono (ok' := fun k_ => (P1_1_ k_ ∨ w.heap.size ≤ k_) ∧ k_ ≠ gb473 ∧ k_ ≠ gb474 ∧ k_ ≠ gb475) ho0 (fun k_ hk_ => ⟨Or.elim hk_ (fun hs_ => hs_.1.1.1) (fun hn_ => (.inr (Nat.le_trans (below_size bl) hn_))), Or.elim hk_ (fun hs_ => hs_.1.1.2) (fun hn_ => (Kd.freshB (g := gb473) (o := .cells #[.bool a0_0, .slice A0_1 l0_1.length c0_1] 43 (0, 0)) (bk BK473.out) k_ hn_)), Or.elim hk_ (fun hs_ => hs_.1.2) (fun hn_ => (Kd.freshB (g := gb474) (o := .cells #[.bool a1_0, .slice A1_1 l1_1.length c1_1] 43 (0, 0)) (bk BK474.out) k_ hn_)), Or.elim hk_ (fun hs_ => hs_.2) (fun hn_ => (Kd.freshB (g := gb475) (o := .cells #[.bool false, .slice none 0 0] 43 (0, 0)) (bk BK475.out) k_ hn_))⟩)) (below_size bl)); replace BK473 := Aside0.mk (bb BK473.out hb); replace BK474 := Aside0.mk (bb BK474.out hb); replace BK475 := Aside0.mk (bb BK475.out hb); replace HB := Aside0.mk (below_step bl hb)
 (try clear hb)
 (try clear hb2)
 (try clear hk)
 (try clear hi)
 (try clear ho0)
 obtain ⟨Ao11, co11, eo11⟩ := Kd.V_slice HO479.out
 (first | subst eo11 | (injection eo11 with f1_ f2_ f3_; have f4_ := f1_.symm; have f5_ := f3_.symm; clear f1_ f2_ f3_; subst f4_; subst f5_))
 refine hK.out _ _ ⟨(blk_cell BK473.out 0).trans rfl, (blk_cell BK473.out 1).trans rfl, (blk_cell BK474.out 0).trans rfl, (blk_cell BK474.out 1).trans rfl⟩ (fun hHeld => ?_)
 clear hK K
 refine norm_ (a' := ?_) ?_ ?_
 rotate_left; focus (show Act.put _ (some 8) _ = _; simp only [Act.put, List.setIfInBounds_toArray, List.set_cons_zero, List.set_cons_succ, i64_w, i32_w]; rfl)
 refine one_ (i := 3) (N := some 9) #[true,true,true,true,false,false,false,false,false] rfl rfl (one_of HT_.out (by kernel_rfl)) (by decide) (fun K hK => ?_)
 refine goes_ Try.func74 (by kernel_rfl) rfl #[.agg #[.bool a0_0, .slice A0_1 l0_1.length c0_1], .agg #[.bool t476, .slice Ao11 t477.length co11]] (by rfl) rfl rfl (by (try simp only [List.map_toArray, List.map_cons, List.map_nil]); first | done | rfl | (simp only [List.length_drop, List.length_take]; rfl)) ?_
 with_reducible refine (exact_plus.calls k a0_0 _ _ l0_1 t476 _ _ t477 t480 t481 _ ?side1 ?side2 ?side3 ?side4 A4.out).mono ?_
 (case side1 => exact kc (Kd.C_below HR0_1.out HB.out))
 (case side2 => exact HC0_1.out)
 (case side3 => exact kc ((Kd.V_reads' HO479.out).2.2))
 (case side4 => exact (Kd.V_reads' HO479.out).2.1)
 rintro e w12 ⟨v482, rfl, ho0, hb⟩
 refine ⟨_, rfl, ?_⟩
 replace HO1_1 := Aside0.mk (vb HO1_1.out hb); replace HO479 := Aside0.mk (vb HO479.out hb); have HO483 := Aside0.mk (Kd.V_lower (Kd.V_mono (ok' := fun k_ => (P1_1_ k_ ∨ w.heap.size ≤ k_) ∧ k_ ≠ gb473 ∧ k_ ≠ gb474 ∧ k_ ≠ gb475) ho0 (fun k_ hk_ => ⟨(.inr (Nat.le_trans (below_size bl) hk_)), (Kd.freshB (g := gb473) (o := .cells #[.bool a0_0, .slice A0_1 l0_1.length c0_1] 43 (0, 0)) (bk BK473.out) k_ hk_), (Kd.freshB (g := gb474) (o := .cells #[.bool a1_0, .slice A1_1 l1_1.length c1_1] 43 (0, 0)) (bk BK474.out) k_ hk_), (Kd.freshB (g := gb475) (o := .cells #[.bool false, .slice none 0 0] 43 (0, 0)) (bk BK475.out) k_ hk_)⟩)) (below_size bl)); replace BK473 := Aside0.mk (bb BK473.out hb); replace BK474 := Aside0.mk (bb BK474.out hb); replace BK475 := Aside0.mk (bb BK475.out hb); replace HB := Aside0.mk (below_step bl hb)
 (try clear hb)
 (try clear hb2)
 (try clear hk)
 (try clear hi)
 (try clear ho0)
 obtain ⟨Ao13, co13, eo13⟩ := Kd.V_slice HO483.out
 (first | subst eo13 | (injection eo13 with f1_ f2_ f3_; have f4_ := f1_.symm; have f5_ := f3_.symm; clear f1_ f2_ f3_; subst f4_; subst f5_))
 refine hK.out _ _ ⟨(blk_cell BK473.out 0).trans rfl, (blk_cell BK473.out 1).trans rfl, (blk_cell BK474.out 0).trans rfl, (blk_cell BK474.out 1).trans rfl⟩ (fun hHeld => ?_)
 clear hK K
 refine norm_ (a' := ?_) ?_ ?_
 rotate_left; focus (show Act.put _ (some 9) _ = _; simp only [Act.put, List.setIfInBounds_toArray, List.set_cons_zero, List.set_cons_succ, i64_w, i32_w]; rfl)
 refine one_ (i := 4) (N := some 10) #[true,true,true,true,true,false,false,false,false] rfl rfl (one_of HT_.out (by kernel_rfl)) (by decide) (fun K hK => ?_)
 refine goes_ Try.func73 (by kernel_rfl) rfl #[.agg #[.bool t480, .slice Ao13 t481.length co13]] (by rfl) rfl rfl (by (try simp only [List.map_toArray, List.map_cons, List.map_nil]); first | done | rfl | (simp only [List.length_drop, List.length_take]; rfl)) ?_
 with_reducible refine (exact_fit.calls t480 (fun k_ => ((P1_1_ k_ ∨ w.heap.size ≤ k_) ∧ (k_ ≠ gb473 ∧ (k_ ≠ gb474 ∧ k_ ≠ gb475)))) _ _ t481 t484 t485 t488 _ ?side1 A5.out).mono ?_
 (case side1 => exact HO483.out)
 rintro e w14 ⟨v486, rfl, ho0, hb⟩
 refine ⟨_, rfl, ?_⟩
 have n0_ := Aside0.mk (vb HO1_1.out hb)
 have n1_ := Aside0.mk (vb HO479.out hb)
 have n2_ := Aside0.mk (vb HO483.out hb)
 have n3_ := Aside0.mk (Kd.V_lower (Kd.V_mono (ok' := fun k_ => (P1_1_ k_ ∨ w.heap.size ≤ k_) ∧ k_ ≠ gb473 ∧ k_ ≠ gb474 ∧ k_ ≠ gb475) ho0 (fun k_ hk_ => ⟨Or.elim hk_ (fun hs_ => hs_.1) (fun hn_ => (.inr (Nat.le_trans (below_size bl) hn_))), Or.elim hk_ (fun hs_ => hs_.2.1) (fun hn_ => (Kd.freshB (g := gb473) (o := .cells #[.bool a0_0, .slice A0_1 l0_1.length c0_1] 43 (0, 0)) (bk BK473.out) k_ hn_)), Or.elim hk_ (fun hs_ => hs_.2.2.1) (fun hn_ => (Kd.freshB (g := gb474) (o := .cells #[.bool a1_0, .slice A1_1 l1_1.length c1_1] 43 (0, 0)) (bk BK474.out) k_ hn_)), Or.elim hk_ (fun hs_ => hs_.2.2.2) (fun hn_ => (Kd.freshB (g := gb475) (o := .cells #[.bool false, .slice none 0 0] 43 (0, 0)) (bk BK475.out) k_ hn_))⟩)) (below_size bl))
 have n4_ := Aside0.mk (bb BK473.out hb)
 have n5_ := Aside0.mk (bb BK474.out hb)
 have n6_ := Aside0.mk (bb BK475.out hb)
 have n7_ := Aside0.mk (below_step bl hb)
 clear HO1_1
 clear HO479
 clear HO483
 clear BK473
 clear BK474
 clear BK475
 clear HB
 have HO487 := n3_
 have BK473 := n4_
 have BK474 := n5_
 have BK475 := n6_
 have HB := n7_
 clear n0_ n1_ n2_ n3_ n4_ n5_ n6_ n7_
 (try clear hb)
 (try clear hb2)
 (try clear hk)
 (try clear hi)
 (try clear ho0)
 obtain ⟨Ao16, co16, eo16⟩ := Kd.V_slice HO487.out
 (first | subst eo16 | (injection eo16 with f1_ f2_ f3_; have f4_ := f1_.symm; have f5_ := f3_.symm; clear f1_ f2_ f3_; subst f4_; subst f5_))
 refine hK.out _ _ ⟨(blk_cell BK473.out 0).trans rfl, (blk_cell BK473.out 1).trans rfl, (blk_cell BK474.out 0).trans rfl, (blk_cell BK474.out 1).trans rfl⟩ (fun hHeld => ?_)
 clear hK K
 refine norm_ (a' := ?_) ?_ ?_
 rotate_left; focus (show Act.put _ (some 10) _ = _; simp only [Act.put, List.setIfInBounds_toArray, List.set_cons_zero, List.set_cons_succ, i64_w, i32_w]; rfl)
 refine pure_ (i := 5) (N := some 11) (v := ?_) (a' := ?_) #[true,true,true,true,true,true,false,false,false] rfl rfl (any_of HT_.out (by kernel_rfl)) (fun _ _ _ h => h) (Or.inl ⟨by rfl, ?_⟩) ?_ ?_
 rotate_left; focus (intro w'; go_simp; with_reducible rfl)
 rotate_left; focus (simp only [Act.put, List.setIfInBounds_toArray, List.set_cons_zero, List.set_cons_succ, i64_w, i32_w]; rfl)
 refine pure_ (i := 6) (N := some 12) (v := ?_) (a' := ?_) #[true,true,true,true,true,true,true,false,false] rfl rfl (any_of HT_.out (by kernel_rfl)) (fun _ _ _ h => h) (Or.inl ⟨by rfl, ?_⟩) ?_ ?_
 rotate_left; focus (intro w'; go_simp; with_reducible rfl)
 rotate_left; focus (simp only [Act.put, List.setIfInBounds_toArray, List.set_cons_zero, List.set_cons_succ, i64_w, i32_w]; rfl)
 refine one_ (i := 7) (N := none) #[true,true,true,true,true,true,true,true,false] rfl rfl (one_of HT_.out (by kernel_rfl)) (by decide) (fun K hK => ?_)
 have hs15 : w14.cell? ⟨gb475, 0, none⟩ = some (.bool false) := (blk_cell BK475.out 0).trans rfl
 have hfs15 := blk_frozen BK475.out 0
 have hs17 : w14.cell? ⟨gb475, 1, none⟩ = some (.slice none 0 0) := (blk_cell BK475.out 1).trans rfl
 have hfs17 := blk_frozen BK475.out 1
 refine skip_ (w1 := ?_) (by rfl) rfl ?_ ?_
 rotate_left; focus (go_simp; rfl)
 refine hK.out _ _ ⟨((cell_far (p := ⟨gb475, _, none⟩) NB473_475.out _).trans (((cell_far (p := ⟨gb475, _, none⟩) NB473_475.out _).trans (hHeld.1)))), ((cell_far (p := ⟨gb475, _, none⟩) NB473_475.out _).trans (((cell_far (p := ⟨gb475, _, none⟩) NB473_475.out _).trans (hHeld.2.1)))), ((cell_far (p := ⟨gb475, _, none⟩) NB474_475.out _).trans (((cell_far (p := ⟨gb475, _, none⟩) NB474_475.out _).trans (hHeld.2.2.1)))), ((cell_far (p := ⟨gb475, _, none⟩) NB474_475.out _).trans (((cell_far (p := ⟨gb475, _, none⟩) NB474_475.out _).trans (hHeld.2.2.2))))⟩ (fun hHeld => ?_)
 clear hK K
 refine pure_ (i := 8) (N := some 5) (v := ?_) (a' := ?_) #[true,true,true,true,true,true,true,true,true] rfl rfl (any_of HT_.out (by kernel_rfl)) (fun _ _ _ h => h) (Or.inl ⟨by rfl, ?_⟩) ?_ ?_
 rotate_left; focus (intro w'; go_simp; with_reducible rfl)
 rotate_left; focus (simp only [Act.put, List.setIfInBounds_toArray, List.set_cons_zero, List.set_cons_succ, i64_w, i32_w]; rfl)
 refine done_ (done_of HT_.out (by kernel_rfl)) ?_
 try go_wp2
 refine bodyPost_ret (results_ct rfl _ _ gb475 43 #[.bool t484, .slice Ao16 t485.length co16] (0, 0) _ rfl (by (with_reducible repeat (first | refine blk_drewN ?_ _ | refine blk_drew ?_ | refine blk_alloc ?_ _)); refine blk_put (cs := #[.bool t484, .slice none 0 0]) ?_ 1 _ rfl; (with_reducible repeat (first | refine blk_drewN ?_ _ | refine blk_drew ?_ | refine blk_alloc ?_ _)); refine blk_put (cs := #[.bool false, .slice none 0 0]) ?_ 0 _ rfl; (with_reducible repeat (first | refine blk_drewN ?_ _ | refine blk_drew ?_ | refine blk_alloc ?_ _)); exact BK475.out) Try.underlying43 rfl (by kernel_rfl)) rfl ?_
 exact ⟨_, by first | rfl | (simp [errW_none, errW_some] <;> rfl) | (simp [*, errW_none, errW_some] <;> rfl), by (with_reducible repeat (first | apply Kd.V_alloc | apply Kd.V_drewN | apply Kd.V_drew)); exact Kd.V_mono (Kd.V_far (p := ⟨gb475, 1, none⟩) (Kd.V_far (p := ⟨gb475, 0, none⟩) (Kd.V_mono HO487.out (fun k_ hk => (⟨hk, hk.2.2.2⟩ : _ ∧ k_ ≠ gb475))) (fun _ hk => hk.2) (.bool t484)) (fun _ hk => hk.2) (.slice Ao16 t485.length co16)) (fun _ hk => hk.1.1), bl⟩

end Go.Proofs.Ytlbljdjbcbgnlaa.PX
namespace Go.Proofs.Ytlbljdjbcbgnlaa.PX
open Go.RowKit Go.Proofs.YtlbljdjbcbgnlaaW.PrintWords Go.Proofs.YtlbljdjbcbgnlaaW.PrintLast Go.Proofs.YtlbljdjbcbgnlaaW.PrintMore
attribute [local go_sem] max2_int min2_int max_two min_two max_three min_three max_four min_four   -- for this text's walks alone
set_option linter.unusedVariables false
set_option linter.unusedSimpArgs false

/-! ### exact_Mul: function 45 -/
def exact_Mul.f (k : Nat) (a0_0 : Bool) (l0_1 : List Int) (a1_0 : Bool) (l1_1 : List Int) : Option (Bool × List Int × Int) := (exact_times.f k a0_0 l0_1 a1_0 l1_1).bind fun bt492 => ((exact_fit.f bt492.1 bt492.2).bind fun bt496 => (some (bt496.1, bt496.2.1, bt496.2.2)))
theorem exact_Mul.mono : ∀ a0 a1 a2 a3 k, LeO (exact_Mul.f k a0 a1 a2 a3) (exact_Mul.f (k + 1) a0 a1 a2 a3) := by
 intro a0 a1 a2 a3 k
 unfold exact_Mul.f
 repeat' first
  | (with_reducible exact exact_times.mono _ _ _ _ _)
  | (with_reducible exact LeO.refl _)
  | (with_reducible exact LeO.none _)
  | (with_reducible refine LeO.ite ?_ ?_)
  | (with_reducible refine LeO.bind ?_ (fun _ => ?_))
  | exact exact_times.mono _ _ _ _ _
  | exact LeO.none _
  | refine LeO.ite ?_ ?_
  | refine LeO.bind ?_ (fun _ => ?_)
set_option maxHeartbeats 8000000 in
set_option maxRecDepth 100000 in
theorem exact_Mul.calls (k : Nat) (a0_0 : Bool) (A0_1 : Option Addr) (c0_1 : Nat) (l0_1 : List Int) (a1_0 : Bool) (A1_1 : Option Addr) (c1_1 : Nat) (l1_1 : List Int) (r1 : Bool) (r2 : List Int) (r3 : Int) (w : World) (hr0_1 : Kd.C (Kd.int .u32) w A0_1 l0_1.length l0_1) (hc0_1 : l0_1.length ≤ c0_1) (hr1_1 : Kd.C (Kd.int .u32) w A1_1 l1_1.length l1_1) (hc1_1 : l1_1.length ≤ c1_1) (h : exact_Mul.f k a0_0 l0_1 a1_0 l1_1 = some (r1, r2, r3)) :
 Calls Try.prog 45 #[.agg #[.bool a0_0, .slice A0_1 l0_1.length c0_1], .agg #[.bool a1_0, .slice A1_1 l1_1.length c1_1]] w fun e w' => ∃ v1_ : Value, e = .returned (.tuple #[.agg #[.bool r1, v1_], .int .i64 r3]) ∧ Kd.V (Kd.int .u32) 97 w' w.heap.size (fun k_ => (w.heap.size ≤ k_)) v1_ r2 ∧ Below w.heap.size w w' := by
 have HR0_1 := Aside0.mk hr0_1
 have HC0_1 := Aside0.mk hc0_1
 clear hr0_1 hc0_1
 have HR1_1 := Aside0.mk hr1_1
 have HC1_1 := Aside0.mk hc1_1
 clear hr1_1 hc1_1
 have HB := Aside0.mk (Below.refl w.heap.size w)
 have H : ((exact_times.f k a0_0 l0_1 a1_0 l1_1).bind fun bt492 => ((exact_fit.f bt492.1 bt492.2).bind fun bt496 => (some (bt496.1, bt496.2.1, bt496.2.2)))) = some (r1, r2, r3) := h
 clear h
 replace H := Option.bind_eq_some_iff.mp H
 obtain ⟨⟨t492, t493⟩, A30, H⟩ := H
 replace H : ((exact_fit.f t492 t493).bind fun bt496 => (some (bt496.1, bt496.2.1, bt496.2.2))) = some (r1, r2, r3) := H
 have A3 := Aside0.mk A30
 clear A30
 replace H := Option.bind_eq_some_iff.mp H
 obtain ⟨⟨t496, t497, t500⟩, A40, H⟩ := H
 replace H : (some (t496, t497, t500)) = some (r1, r2, r3) := H
 have A4 := Aside0.mk A40
 clear A40
 simp only [Option.some.injEq, Prod.mk.injEq] at H
 obtain ⟨rfl, rfl, rfl⟩ := H
 go_enter Try.func45, Try.ntmps45
 go_wp2_with (first | ((with_reducible refine gate_dst (N := 2) rfl ?_); refine box_event ?hg (N := 2) ?hd (cs := #[.bool a0_0, .slice A0_1 l0_1.length c0_1]) (t := 43) ?hr ?_; (case hd => rfl); (case hg => rfl); (case hr => first | (go_simp; done) | (go_simp; rfl)); intro gb489 hg w5 hbox hb; have BK489 := Aside0.mk (hbox); replace HB := Aside0.mk (below_step bl hb); clear hb hbox hg) | ((with_reducible refine gate_dst (N := 3) rfl ?_); refine box_event ?hg (N := 3) ?hd (cs := #[.bool a1_0, .slice A1_1 l1_1.length c1_1]) (t := 43) ?hr ?_; (case hd => rfl); (case hg => rfl); (case hr => first | (go_simp; done) | (go_simp; rfl)); intro gb490 hg w6 hbox hb; have BK490 := Aside0.mk (hbox); replace HB := Aside0.mk (below_step bl hb); have NB489_490 := Aside0.mk (nl hg (bk BK489.out)); have NB490_489 := Aside0.mk (ng hg (bk BK489.out)); replace BK489 := Aside0.mk (bb BK489.out hb); clear hb hbox hg) | ((with_reducible refine gate_dst (N := 4) rfl ?_); refine box_event ?hg (N := 4) ?hd (cs := #[.bool false, .slice none 0 0]) (t := 43) ?hr ?_; (case hd => rfl); (case hg => rfl); (case hr => first | (go_simp; done) | (go_simp; rfl)); intro gb491 hg w7 hbox hb; have BK491 := Aside0.mk (hbox); have GE491 := Aside0.mk (ge (w := w) hg); replace HB := Aside0.mk (below_step bl hb); have NB489_491 := Aside0.mk (nl hg (bk BK489.out)); have NB491_489 := Aside0.mk (ng hg (bk BK489.out)); replace BK489 := Aside0.mk (bb BK489.out hb); have NB490_491 := Aside0.mk (nl hg (bk BK490.out)); have NB491_490 := Aside0.mk (ng hg (bk BK490.out)); replace BK490 := Aside0.mk (bb BK490.out hb); clear hb hbox hg; obtain ⟨hcz10_0, hcz10_1, hfz10_0, hfz10_1⟩ := bz2 BK489.out; obtain ⟨hcz12_0, hcz12_1, hfz12_0, hfz12_1⟩ := bz2 BK490.out) | ((with_reducible refine gate_callee (f := 79) rfl ?_); refine goesL_ (some 8) rfl rfl Try.func79 (by kernel_rfl) rfl #[.agg #[.bool a0_0, .slice A0_1 l0_1.length c0_1], .agg #[.bool a1_0, .slice A1_1 l1_1.length c1_1]] rfl (by (try simp only [List.map_toArray, List.map_cons, List.map_nil]); first | done | rfl | (simp only [List.length_drop, List.length_take]; rfl)) ?_; (with_reducible refine (exact_times.calls k a0_0 _ _ l0_1 a1_0 _ _ l1_1 t492 t493 _ ?side1 ?side2 ?side3 ?side4 A3.out).mono ?_); (case side1 => exact kc (Kd.C_below HR0_1.out HB.out)); (case side2 => exact HC0_1.out); (case side3 => exact kc (Kd.C_below HR1_1.out HB.out)); (case side4 => exact HC1_1.out); rintro e w13 ⟨v494, rfl, ho0, hb⟩; refine ⟨_, rfl, ?_⟩; have HO495 := Aside0.mk (Kd.V_lower (Kd.V_mono (ok' := fun k_ => (w.heap.size ≤ k_) ∧ k_ ≠ gb489 ∧ k_ ≠ gb490 ∧ k_ ≠ gb491) ho0 (fun k_ hk_ => ⟨(Nat.le_trans (below_size bl) hk_), (Kd.freshB (g := gb489) (o := .cells #[.bool a0_0, .slice A0_1 l0_1.length c0_1] 43 (0, 0)) (bk BK489.out) k_ hk_), (Kd.freshB (g := gb490) (o := .cells #[.bool a1_0, .slice A1_1 l1_1.length c1_1] 43 (0, 0)) (bk BK490.out) k_ hk_), (Kd.freshB (g := gb491) (o := .cells #[.bool false, .slice none 0 0] 43 (0, 0)) (bk BK491.out) k_ hk_)⟩)) (below_size bl)); replace BK489 := Aside0.mk (bb BK489.out hb); replace BK490 := Aside0.mk (bb BK490.out hb); replace BK491 := Aside0.mk (bb BK491.out hb); replace HB := Aside0.mk (below_step bl hb); (try clear hb); (try clear ho0); obtain ⟨Ao14, co14, eo14⟩ := Kd.V_slice HO495.out; subst eo14) | ((with_reducible refine gate_callee (f := 73) rfl ?_); refine goesL_ (some 9) rfl rfl Try.func73 (by kernel_rfl) rfl #[.agg #[.bool t492, .slice Ao14 t493.length co14]] rfl (by (try simp only [List.map_toArray, List.map_cons, List.map_nil]); first | done | rfl | (simp only [List.length_drop, List.length_take]; rfl)) ?_; (with_reducible refine (exact_fit.calls t492 (fun k_ => ((w.heap.size ≤ k_) ∧ (k_ ≠ gb489 ∧ (k_ ≠ gb490 ∧ k_ ≠ gb491)))) _ _ t493 t496 t497 t500 _ ?side1 A4.out).mono ?_); (case side1 => exact HO495.out); rintro e w15 ⟨v498, rfl, ho0, hb⟩; refine ⟨_, rfl, ?_⟩; replace HO495 := Aside0.mk (vb HO495.out hb); have HO499 := Aside0.mk (Kd.V_lower (Kd.V_mono (ok' := fun k_ => (w.heap.size ≤ k_) ∧ k_ ≠ gb489 ∧ k_ ≠ gb490 ∧ k_ ≠ gb491) ho0 (fun k_ hk_ => ⟨Or.elim hk_ (fun hs_ => hs_.1) (fun hn_ => (Nat.le_trans (below_size bl) hn_)), Or.elim hk_ (fun hs_ => hs_.2.1) (fun hn_ => (Kd.freshB (g := gb489) (o := .cells #[.bool a0_0, .slice A0_1 l0_1.length c0_1] 43 (0, 0)) (bk BK489.out) k_ hn_)), Or.elim hk_ (fun hs_ => hs_.2.2.1) (fun hn_ => (Kd.freshB (g := gb490) (o := .cells #[.bool a1_0, .slice A1_1 l1_1.length c1_1] 43 (0, 0)) (bk BK490.out) k_ hn_)), Or.elim hk_ (fun hs_ => hs_.2.2.2) (fun hn_ => (Kd.freshB (g := gb491) (o := .cells #[.bool false, .slice none 0 0] 43 (0, 0)) (bk BK491.out) k_ hn_))⟩)) (below_size bl)); replace BK489 := Aside0.mk (bb BK489.out hb); replace BK490 := Aside0.mk (bb BK490.out hb); replace BK491 := Aside0.mk (bb BK491.out hb); replace HB := Aside0.mk (below_step bl hb); (try clear hb); (try clear ho0); obtain ⟨hcz16_0, hcz16_1, hfz16_0, hfz16_1⟩ := bz2 BK491.out; obtain ⟨Ao17, co17, eo17⟩ := Kd.V_slice HO499.out; subst eo17))
 refine bodyPost_ret (results_ct rfl _ _ gb491 43 #[.bool t496, .slice Ao17 t497.length co17] (0, 0) _ rfl (by (with_reducible repeat (first | refine blk_drewN ?_ _ | refine blk_drew ?_ | refine blk_alloc ?_ _)); refine blk_put (cs := #[.bool t496, .slice none 0 0]) ?_ 1 _ rfl; (with_reducible repeat (first | refine blk_drewN ?_ _ | refine blk_drew ?_ | refine blk_alloc ?_ _)); refine blk_put (cs := #[.bool false, .slice none 0 0]) ?_ 0 _ rfl; (with_reducible repeat (first | refine blk_drewN ?_ _ | refine blk_drew ?_ | refine blk_alloc ?_ _)); exact BK491.out) Try.underlying43 rfl (by kernel_rfl)) rfl ?_
 exact ⟨_, by first | rfl | (simp [errW_none, errW_some] <;> rfl) | (simp [*, errW_none, errW_some] <;> rfl), by (with_reducible repeat (first | apply Kd.V_alloc | apply Kd.V_drewN | apply Kd.V_drew)); exact Kd.V_mono (Kd.V_far (p := ⟨gb491, 1, none⟩) (Kd.V_far (p := ⟨gb491, 0, none⟩) (Kd.V_mono HO499.out (fun k_ hk => (⟨hk, hk.2.2.2⟩ : _ ∧ k_ ≠ gb491))) (fun _ hk => hk.2) (.bool t496)) (fun _ hk => hk.2) (.slice Ao17 t497.length co17)) (fun _ hk => hk.1.1), bl⟩

end Go.Proofs.Ytlbljdjbcbgnlaa.PX
namespace Go.Proofs.Ytlbljdjbcbgnlaa.PX
open Go.RowKit Go.Proofs.YtlbljdjbcbgnlaaW.PrintWords Go.Proofs.YtlbljdjbcbgnlaaW.PrintLast Go.Proofs.YtlbljdjbcbgnlaaW.PrintMore
attribute [local go_sem] max2_int min2_int max_two min_two max_three min_three max_four min_four   -- for this text's walks alone
set_option linter.unusedVariables false
set_option linter.unusedSimpArgs false

/-! ### maskref4_DecCmp: function 48 -/
def maskref4_DecCmp.f (k : Nat) (a0_0 : Bool) (l0_1 : List Int) (a1_0 : Bool) (l1_1 : List Int) : Option (Int) := (maskref4_Dec_Minus.f k a0_0 l0_1 a1_0 l1_1).bind fun bt503 => (if (bt503.2.length : Int) = 0 then (some 0) else (if bt503.1 = true then (some (-1)) else (some 1)))
theorem maskref4_DecCmp.mono : ∀ a0 a1 a2 a3 k, LeO (maskref4_DecCmp.f k a0 a1 a2 a3) (maskref4_DecCmp.f (k + 1) a0 a1 a2 a3) := by
 intro a0 a1 a2 a3 k
 unfold maskref4_DecCmp.f
 repeat' first
  | (with_reducible exact maskref4_Dec_Minus.mono _ _ _ _ _)
  | (with_reducible exact LeO.refl _)
  | (with_reducible exact LeO.none _)
  | (with_reducible refine LeO.ite ?_ ?_)
  | (with_reducible refine LeO.bind ?_ (fun _ => ?_))
  | exact maskref4_Dec_Minus.mono _ _ _ _ _
  | exact LeO.none _
  | refine LeO.ite ?_ ?_
  | refine LeO.bind ?_ (fun _ => ?_)
set_option maxHeartbeats 8000000 in
set_option maxRecDepth 100000 in
theorem maskref4_DecCmp.calls (k : Nat) (a0_0 : Bool) (A0_1 : Option Addr) (c0_1 : Nat) (l0_1 : List Int) (a1_0 : Bool) (A1_1 : Option Addr) (c1_1 : Nat) (l1_1 : List Int) (r : Int) (w : World) (hr0_1 : Kd.C (Kd.int .i64) w A0_1 l0_1.length l0_1) (hc0_1 : l0_1.length ≤ c0_1) (hr1_1 : Kd.C (Kd.int .i64) w A1_1 l1_1.length l1_1) (hc1_1 : l1_1.length ≤ c1_1) (h : maskref4_DecCmp.f k a0_0 l0_1 a1_0 l1_1 = some r) :
 Calls Try.prog 48 #[.agg #[.bool a0_0, .slice A0_1 l0_1.length c0_1], .agg #[.bool a1_0, .slice A1_1 l1_1.length c1_1]] w fun e w' => e = .returned (.int .i64 r) ∧ Below w.heap.size w w' := by
 have HR0_1 := Aside0.mk hr0_1
 have HC0_1 := Aside0.mk hc0_1
 clear hr0_1 hc0_1
 have HR1_1 := Aside0.mk hr1_1
 have HC1_1 := Aside0.mk hc1_1
 clear hr1_1 hc1_1
 have HB := Aside0.mk (Below.refl w.heap.size w)
 have H : ((maskref4_Dec_Minus.f k a0_0 l0_1 a1_0 l1_1).bind fun bt503 => (if (bt503.2.length : Int) = 0 then (some 0) else (if bt503.1 = true then (some (-1)) else (some 1)))) = some r := h
 clear h
 replace H := Option.bind_eq_some_iff.mp H
 obtain ⟨⟨t503, t504⟩, A30, H⟩ := H
 replace H : (if (t504.length : Int) = 0 then (some 0) else (if t503 = true then (some (-1)) else (some 1))) = some r := H
 have A3 := Aside0.mk A30
 clear A30
 by_cases c4 : (t504.length : Int) = 0
 · rw [if_pos c4] at H
   have c4b0 : ((t504.length : Int) == 0) = true := beq_iff_eq.mpr c4
   clear c4
   obtain rfl := Option.some.inj H
   go_enter Try.func48, Try.ntmps48
   go_wp2_with (first | ((with_reducible refine gate_dst (N := 2) rfl ?_); refine box_event ?hg (N := 2) ?hd (cs := #[.bool a0_0, .slice A0_1 l0_1.length c0_1]) (t := 36) ?hr ?_; (case hd => rfl); (case hg => rfl); (case hr => first | (go_simp; done) | (go_simp; rfl)); intro gb501 hg w5 hbox hb; have BK501 := Aside0.mk (hbox); replace HB := Aside0.mk (below_step bl hb); clear hb hbox hg) | ((with_reducible refine gate_dst (N := 3) rfl ?_); refine box_event ?hg (N := 3) ?hd (cs := #[.bool a1_0, .slice A1_1 l1_1.length c1_1]) (t := 36) ?hr ?_; (case hd => rfl); (case hg => rfl); (case hr => first | (go_simp; done) | (go_simp; rfl)); intro gb502 hg w6 hbox hb; have BK502 := Aside0.mk (hbox); replace HB := Aside0.mk (below_step bl hb); have NB501_502 := Aside0.mk (nl hg (bk BK501.out)); have NB502_501 := Aside0.mk (ng hg (bk BK501.out)); replace BK501 := Aside0.mk (bb BK501.out hb); clear hb hbox hg; obtain ⟨hcz8_0, hcz8_1, hfz8_0, hfz8_1⟩ := bz2 BK501.out; obtain ⟨hcz9_0, hcz9_1, hfz9_0, hfz9_1⟩ := bz2 BK502.out) | ((with_reducible refine gate_callee (f := 47) rfl ?_); refine goesL_ (some 8) rfl rfl Try.func47 (by kernel_rfl) rfl #[.agg #[.bool a0_0, .slice A0_1 l0_1.length c0_1], .agg #[.bool a1_0, .slice A1_1 l1_1.length c1_1]] rfl (by (try simp only [List.map_toArray, List.map_cons, List.map_nil]); first | done | rfl | (simp only [List.length_drop, List.length_take]; rfl)) ?_; (with_reducible refine (maskref4_Dec_Minus.calls k a0_0 _ _ l0_1 a1_0 _ _ l1_1 t503 t504 _ ?side1 ?side2 ?side3 ?side4 A3.out).mono ?_); (case side1 => exact kc (Kd.C_below HR0_1.out HB.out)); (case side2 => exact HC0_1.out); (case side3 => exact kc (Kd.C_below HR1_1.out HB.out)); (case side4 => exact HC1_1.out); rintro e w10 ⟨v505, rfl, ho0, hb⟩; refine ⟨_, rfl, ?_⟩; have HO506 := Aside0.mk (Kd.V_lower (Kd.V_mono (ok' := fun k_ => k_ ≠ gb501 ∧ k_ ≠ gb502) ho0 (fun k_ hk_ => ⟨(Kd.freshB (g := gb501) (o := .cells #[.bool a0_0, .slice A0_1 l0_1.length c0_1] 36 (0, 0)) (bk BK501.out) k_ hk_), (Kd.freshB (g := gb502) (o := .cells #[.bool a1_0, .slice A1_1 l1_1.length c1_1] 36 (0, 0)) (bk BK502.out) k_ hk_)⟩)) (below_size bl)); replace BK501 := Aside0.mk (bb BK501.out hb); replace BK502 := Aside0.mk (bb BK502.out hb); replace HB := Aside0.mk (below_step bl hb); (try clear hb); (try clear ho0)) | ((with_reducible refine gate_dst (N := 5) rfl ?_); refine box_event ?hg (N := 5) ?hd (cs := #[.bool false, .slice none 0 0]) (t := 36) ?hr ?_; (case hd => rfl); (case hg => rfl); (case hr => first | (go_simp; done) | (go_simp; rfl)); intro gb507 hg w11 hbox hb; replace HO506 := Aside0.mk (Kd.V_below (Kd.V_elderB (vk HO506.out) gb507 (Nat.le_of_eq hg.symm)) hb); have BK507 := Aside0.mk (hbox); have GE507 := Aside0.mk (ge (w := w) hg); replace HB := Aside0.mk (below_step bl hb); have NB501_507 := Aside0.mk (nl hg (bk BK501.out)); have NB507_501 := Aside0.mk (ng hg (bk BK501.out)); replace BK501 := Aside0.mk (bb BK501.out hb); have NB502_507 := Aside0.mk (nl hg (bk BK502.out)); have NB507_502 := Aside0.mk (ng hg (bk BK502.out)); replace BK502 := Aside0.mk (bb BK502.out hb); clear hb hbox hg; obtain ⟨hcz14_0, hcz14_1, hfz14_0, hfz14_1⟩ := bz2 BK507.out; obtain ⟨Ao15, co15, eo15⟩ := Kd.V_slice HO506.out; subst eo15))
   go_ret
   exact ⟨by first | rfl | (simp [errW_none, errW_some] <;> rfl) | (simp [*, errW_none, errW_some] <;> rfl), bl⟩
 · rw [if_neg c4] at H
   have c4b0 : ((t504.length : Int) == 0) = false := beq_eq_false_iff_ne.mpr c4
   by_cases c16 : t503 = true
   · subst c16
     have H1 : (some (-1)) = some r := by rw [if_pos rfl] at H; exact H
     clear H
     have H := H1
     clear H1
     obtain rfl := Option.some.inj H
     go_enter Try.func48, Try.ntmps48
     go_wp2_with (first | ((with_reducible refine gate_dst (N := 2) rfl ?_); refine box_event ?hg (N := 2) ?hd (cs := #[.bool a0_0, .slice A0_1 l0_1.length c0_1]) (t := 36) ?hr ?_; (case hd => rfl); (case hg => rfl); (case hr => first | (go_simp; done) | (go_simp; rfl)); intro gb501 hg w17 hbox hb; have BK501 := Aside0.mk (hbox); replace HB := Aside0.mk (below_step bl hb); clear hb hbox hg) | ((with_reducible refine gate_dst (N := 3) rfl ?_); refine box_event ?hg (N := 3) ?hd (cs := #[.bool a1_0, .slice A1_1 l1_1.length c1_1]) (t := 36) ?hr ?_; (case hd => rfl); (case hg => rfl); (case hr => first | (go_simp; done) | (go_simp; rfl)); intro gb502 hg w18 hbox hb; have BK502 := Aside0.mk (hbox); replace HB := Aside0.mk (below_step bl hb); have NB501_502 := Aside0.mk (nl hg (bk BK501.out)); have NB502_501 := Aside0.mk (ng hg (bk BK501.out)); replace BK501 := Aside0.mk (bb BK501.out hb); clear hb hbox hg; obtain ⟨hcz20_0, hcz20_1, hfz20_0, hfz20_1⟩ := bz2 BK501.out; obtain ⟨hcz21_0, hcz21_1, hfz21_0, hfz21_1⟩ := bz2 BK502.out) | ((with_reducible refine gate_callee (f := 47) rfl ?_); refine goesL_ (some 8) rfl rfl Try.func47 (by kernel_rfl) rfl #[.agg #[.bool a0_0, .slice A0_1 l0_1.length c0_1], .agg #[.bool a1_0, .slice A1_1 l1_1.length c1_1]] rfl (by (try simp only [List.map_toArray, List.map_cons, List.map_nil]); first | done | rfl | (simp only [List.length_drop, List.length_take]; rfl)) ?_; (with_reducible refine (maskref4_Dec_Minus.calls k a0_0 _ _ l0_1 a1_0 _ _ l1_1 true t504 _ ?side1 ?side2 ?side3 ?side4 A3.out).mono ?_); (case side1 => exact kc (Kd.C_below HR0_1.out HB.out)); (case side2 => exact HC0_1.out); (case side3 => exact kc (Kd.C_below HR1_1.out HB.out)); (case side4 => exact HC1_1.out); rintro e w22 ⟨v505, rfl, ho0, hb⟩; refine ⟨_, rfl, ?_⟩; have HO506 := Aside0.mk (Kd.V_lower (Kd.V_mono (ok' := fun k_ => k_ ≠ gb501 ∧ k_ ≠ gb502) ho0 (fun k_ hk_ => ⟨(Kd.freshB (g := gb501) (o := .cells #[.bool a0_0, .slice A0_1 l0_1.length c0_1] 36 (0, 0)) (bk BK501.out) k_ hk_), (Kd.freshB (g := gb502) (o := .cells #[.bool a1_0, .slice A1_1 l1_1.length c1_1] 36 (0, 0)) (bk BK502.out) k_ hk_)⟩)) (below_size bl)); replace BK501 := Aside0.mk (bb BK501.out hb); replace BK502 := Aside0.mk (bb BK502.out hb); replace HB := Aside0.mk (below_step bl hb); (try clear hb); (try clear ho0)) | ((with_reducible refine gate_dst (N := 5) rfl ?_); refine box_event ?hg (N := 5) ?hd (cs := #[.bool false, .slice none 0 0]) (t := 36) ?hr ?_; (case hd => rfl); (case hg => rfl); (case hr => first | (go_simp; done) | (go_simp; rfl)); intro gb507 hg w23 hbox hb; replace HO506 := Aside0.mk (Kd.V_below (Kd.V_elderB (vk HO506.out) gb507 (Nat.le_of_eq hg.symm)) hb); have BK507 := Aside0.mk (hbox); have GE507 := Aside0.mk (ge (w := w) hg); replace HB := Aside0.mk (below_step bl hb); have NB501_507 := Aside0.mk (nl hg (bk BK501.out)); have NB507_501 := Aside0.mk (ng hg (bk BK501.out)); replace BK501 := Aside0.mk (bb BK501.out hb); have NB502_507 := Aside0.mk (nl hg (bk BK502.out)); have NB507_502 := Aside0.mk (ng hg (bk BK502.out)); replace BK502 := Aside0.mk (bb BK502.out hb); clear hb hbox hg; obtain ⟨hcz26_0, hcz26_1, hfz26_0, hfz26_1⟩ := bz2 BK507.out; obtain ⟨Ao27, co27, eo27⟩ := Kd.V_slice HO506.out; subst eo27))
     go_ret
     exact ⟨by first | rfl | (simp [errW_none, errW_some] <;> rfl) | (simp [*, errW_none, errW_some] <;> rfl), bl⟩
   · replace c16 := Bool.eq_false_iff.mpr c16
     subst c16
     have H1 : (some 1) = some r := by rw [if_neg (show ¬ (false = true) by decide)] at H; exact H
     clear H
     have H := H1
     clear H1
     obtain rfl := Option.some.inj H
     go_enter Try.func48, Try.ntmps48
     go_wp2_with (first | ((with_reducible refine gate_dst (N := 2) rfl ?_); refine box_event ?hg (N := 2) ?hd (cs := #[.bool a0_0, .slice A0_1 l0_1.length c0_1]) (t := 36) ?hr ?_; (case hd => rfl); (case hg => rfl); (case hr => first | (go_simp; done) | (go_simp; rfl)); intro gb501 hg w28 hbox hb; have BK501 := Aside0.mk (hbox); replace HB := Aside0.mk (below_step bl hb); clear hb hbox hg) | ((with_reducible refine gate_dst (N := 3) rfl ?_); refine box_event ?hg (N := 3) ?hd (cs := #[.bool a1_0, .slice A1_1 l1_1.length c1_1]) (t := 36) ?hr ?_; (case hd => rfl); (case hg => rfl); (case hr => first | (go_simp; done) | (go_simp; rfl)); intro gb502 hg w29 hbox hb; have BK502 := Aside0.mk (hbox); replace HB := Aside0.mk (below_step bl hb); have NB501_502 := Aside0.mk (nl hg (bk BK501.out)); have NB502_501 := Aside0.mk (ng hg (bk BK501.out)); replace BK501 := Aside0.mk (bb BK501.out hb); clear hb hbox hg; obtain ⟨hcz31_0, hcz31_1, hfz31_0, hfz31_1⟩ := bz2 BK501.out; obtain ⟨hcz32_0, hcz32_1, hfz32_0, hfz32_1⟩ := bz2 BK502.out) | ((with_reducible refine gate_callee (f := 47) rfl ?_); refine goesL_ (some 8) rfl rfl Try.func47 (by kernel_rfl) rfl #[.agg #[.bool a0_0, .slice A0_1 l0_1.length c0_1], .agg #[.bool a1_0, .slice A1_1 l1_1.length c1_1]] rfl (by (try simp only [List.map_toArray, List.map_cons, List.map_nil]); first | done | rfl | (simp only [List.length_drop, List.length_take]; rfl)) ?_; (with_reducible refine (maskref4_Dec_Minus.calls k a0_0 _ _ l0_1 a1_0 _ _ l1_1 false t504 _ ?side1 ?side2 ?side3 ?side4 A3.out).mono ?_); (case side1 => exact kc (Kd.C_below HR0_1.out HB.out)); (case side2 => exact HC0_1.out); (case side3 => exact kc (Kd.C_below HR1_1.out HB.out)); (case side4 => exact HC1_1.out); rintro e w33 ⟨v505, rfl, ho0, hb⟩; refine ⟨_, rfl, ?_⟩; have HO506 := Aside0.mk (Kd.V_lower (Kd.V_mono (ok' := fun k_ => k_ ≠ gb501 ∧ k_ ≠ gb502) ho0 (fun k_ hk_ => ⟨(Kd.freshB (g := gb501) (o := .cells #[.bool a0_0, .slice A0_1 l0_1.length c0_1] 36 (0, 0)) (bk BK501.out) k_ hk_), (Kd.freshB (g := gb502) (o := .cells #[.bool a1_0, .slice A1_1 l1_1.length c1_1] 36 (0, 0)) (bk BK502.out) k_ hk_)⟩)) (below_size bl)); replace BK501 := Aside0.mk (bb BK501.out hb); replace BK502 := Aside0.mk (bb BK502.out hb); replace HB := Aside0.mk (below_step bl hb); (try clear hb); (try clear ho0)) | ((with_reducible refine gate_dst (N := 5) rfl ?_); refine box_event ?hg (N := 5) ?hd (cs := #[.bool false, .slice none 0 0]) (t := 36) ?hr ?_; (case hd => rfl); (case hg => rfl); (case hr => first | (go_simp; done) | (go_simp; rfl)); intro gb507 hg w34 hbox hb; replace HO506 := Aside0.mk (Kd.V_below (Kd.V_elderB (vk HO506.out) gb507 (Nat.le_of_eq hg.symm)) hb); have BK507 := Aside0.mk (hbox); have GE507 := Aside0.mk (ge (w := w) hg); replace HB := Aside0.mk (below_step bl hb); have NB501_507 := Aside0.mk (nl hg (bk BK501.out)); have NB507_501 := Aside0.mk (ng hg (bk BK501.out)); replace BK501 := Aside0.mk (bb BK501.out hb); have NB502_507 := Aside0.mk (nl hg (bk BK502.out)); have NB507_502 := Aside0.mk (ng hg (bk BK502.out)); replace BK502 := Aside0.mk (bb BK502.out hb); clear hb hbox hg; obtain ⟨hcz37_0, hcz37_1, hfz37_0, hfz37_1⟩ := bz2 BK507.out; obtain ⟨Ao38, co38, eo38⟩ := Kd.V_slice HO506.out; subst eo38))
     go_ret
     exact ⟨by first | rfl | (simp [errW_none, errW_some] <;> rfl) | (simp [*, errW_none, errW_some] <;> rfl), bl⟩

end Go.Proofs.Ytlbljdjbcbgnlaa.PX
