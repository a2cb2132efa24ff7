-- PRINTED by print.py (a twelfth state) out of the translation. Not trusted: Lean checks it.
import Derived.Test.YtlbljdjbcbgnlaaCmp
import Derived.Test.YtlbljdjbcbgnlaaPXx0
import Derived.Test.YtlbljdjbcbgnlaaPXx38
namespace Go.Proofs.Ytlbljdjbcbgnlaa.PX
open Go.RowKit Go.Proofs.YtlbljdjbcbgnlaaW.PrintWords Go.Proofs.YtlbljdjbcbgnlaaW.PrintLast Go.Proofs.YtlbljdjbcbgnlaaW.PrintMore
attribute [local go_sem] max2_int min2_int max_two min_two max_three min_three max_four min_four   -- for this text's walks alone
set_option linter.unusedVariables false
set_option linter.unusedSimpArgs false

/-! ### maskref4_less: function 81 -/
def maskref4_less.l0 : Nat → List Int → List Int → Int → Option (Bool)
 | 0, _, _, _ => none
 | k + 1, x0, x1, x5 => if x5 ≥ 0 then (if 0 ≤ x5 then (if x5 < (x0.length : Int) then (if x5 < (x1.length : Int) then (if (rd x0 x5) = (rd x1 x5) then (maskref4_less.l0 k x0 x1 (wrap64 (x5 - 1))) else (some (decide ((rd x0 x5) < (rd x1 x5))))) else (none)) else (none)) else (none)) else (some false)
def maskref4_less.f (k : Nat) (l0 : List Int) (l1 : List Int) : Option (Bool) := if (l0.length : Int) = (l1.length : Int) then (maskref4_less.l0 k l0 l1 (wrap64 ((l0.length : Int) - 1))) else (some (decide ((l0.length : Int) < (l1.length : Int))))
theorem maskref4_less.mono_l : ∀ k, (∀ y0 y1 y2, LeO (maskref4_less.l0 k y0 y1 y2) (maskref4_less.l0 (k + 1) y0 y1 y2))
 | 0 => fun _ _ _ r h => by simp [maskref4_less.l0] at h
 | k + 1 => by
  have ih0 := maskref4_less.mono_l k
  · intro y0 y1 y2
    unfold maskref4_less.l0
    repeat' first
    | (with_reducible exact ih0 _ _ _)
    | (with_reducible exact LeO.refl _)
    | (with_reducible exact LeO.none _)
    | (with_reducible refine LeO.ite ?_ ?_)
    | (with_reducible refine LeO.bind ?_ (fun _ => ?_))
theorem maskref4_less.mono : ∀ a0 a1 k, LeO (maskref4_less.f k a0 a1) (maskref4_less.f (k + 1) a0 a1) := by
 intro a0 a1 k
 have ih0 := maskref4_less.mono_l k
 unfold maskref4_less.f
 repeat' first
  | (with_reducible exact ih0 _ _ _)
  | (with_reducible exact LeO.refl _)
  | (with_reducible exact LeO.none _)
  | (with_reducible refine LeO.ite ?_ ?_)
  | (with_reducible refine LeO.bind ?_ (fun _ => ?_))
set_option maxHeartbeats 8000000 in
set_option maxRecDepth 100000 in
theorem maskref4_less.calls (k : Nat) (A0 : Option Addr) (c0 : Nat) (l0 : List Int) (A1 : Option Addr) (c1 : Nat) (l1 : List Int) (r : Bool) (w : World) (hr0 : Kd.C (Kd.int .i64) w A0 l0.length l0) (hc0 : l0.length ≤ c0) (hr1 : Kd.C (Kd.int .i64) w A1 l1.length l1) (hc1 : l1.length ≤ c1) (h : maskref4_less.f k l0 l1 = some r) :
 Calls Try.prog 81 #[.slice A0 l0.length c0, .slice A1 l1.length c1] w fun e w' => e = .returned (.bool r) ∧ Drawn0 w w' := by
 have HR0 := Aside0.mk hr0
 clear hr0 hc0
 have HR1 := Aside0.mk hr1
 clear hr1 hc1
 have H : (if (l0.length : Int) = (l1.length : Int) then (maskref4_less.l0 k l0 l1 (wrap64 ((l0.length : Int) - 1))) else (some (decide ((l0.length : Int) < (l1.length : Int))))) = some r := h
 clear h
 by_cases c3 : (l0.length : Int) = (l1.length : Int)
 rotate_left
 · rw [if_neg c3] at H
   have c3b1 : ((l0.length : Int) != (l1.length : Int)) = true := bne_iff_ne.mpr c3
   obtain rfl := Option.some.inj H
   go_enter Try.func81, Try.ntmps81
   go_wp2
   repeat (go_quiet (fail); try go_wp2)
   go_ret
   exact ⟨by first | rfl | (simp; done) | (simp [*]; done), by repeat (first | exact Drawn0.refl _ | apply Drawn0.step)⟩
 rw [if_pos c3] at H
 have c3b0 : ((l0.length : Int) == (l1.length : Int)) = true := beq_iff_eq.mpr c3
 have c3b1 : ((l0.length : Int) != (l1.length : Int)) = false := bne_eq_false_iff_eq.mpr c3
 have c3b2 : (l0.length == l1.length) = true := by first | simpa using c3 | (simp at c3 ⊢; omega)
 clear c3
 have H' := Aside0.mk H
 clear H
 go_enter Try.func81, Try.ntmps81
 go_wp2
 repeat (go_quiet (fail); try go_wp2)
 go_loopg [5] k (fun kq v5 w' => ∃ (x5_1 : Int), v5 = .int .i64 x5_1 ∧ Aside0 (maskref4_less.l0 kq l0 l1 x5_1 = some r) ∧ Aside0 (kq ≤ k) ∧ Drawn0 w w')
 case atStart => exact ⟨(wrap64 ((l0.length : Int) - 1)), (by first | rfl | (simp; done) | (simp [*]; done)), H', ⟨Nat.le_refl _⟩, by repeat (first | exact Drawn0.refl _ | apply Drawn0.step)⟩
 clear H'
 clear c3b0 c3b1 c3b2
 obtain ⟨x5_1, rfl, HA, HK1, ⟨m1, rfl⟩⟩ := hrel
 cases gk with
 | zero => exact absurd HA.out (by simp [maskref4_less.l0])
 | succ k1 =>
  have H := HA.out
  clear HA
  simp only [maskref4_less.l0] at H
  by_cases c4 : x5_1 ≥ 0
  rotate_left
  · rw [if_neg c4] at H
    have c4b0 : decide (0 ≤ x5_1) = false := decide_eq_false c4
    clear c4
    obtain rfl := Option.some.inj H
    go_wp2
    repeat (go_quiet (fail); try go_wp2)
    go_ret
    exact ⟨by first | rfl | (simp; done) | (simp [*]; done), by repeat (first | exact Drawn0.refl _ | apply Drawn0.step)⟩
  rw [if_pos c4] at H
  have c4b0 : decide (0 ≤ x5_1) = true := decide_eq_true c4
  clear c4
  by_cases c5 : 0 ≤ x5_1
  rotate_left
  · rw [if_neg c5] at H
    exact absurd H (by simp)
  rw [if_pos c5] at H
  have c5b0 : decide (0 ≤ x5_1) = true := decide_eq_true c5
  clear c5
  by_cases c6 : x5_1 < (l0.length : Int)
  rotate_left
  · rw [if_neg c6] at H
    exact absurd H (by simp)
  rw [if_pos c6] at H
  have c6b0 : decide (x5_1 < (l0.length : Int)) = true := decide_eq_true c6
  clear c6
  by_cases c7 : x5_1 < (l1.length : Int)
  rotate_left
  · rw [if_neg c7] at H
    exact absurd H (by simp)
  rw [if_pos c7] at H
  have c7b0 : decide (x5_1 < (l1.length : Int)) = true := decide_eq_true c7
  clear c7
  by_cases c8 : (rd l0 x5_1) = (rd l1 x5_1)
  · rw [if_pos c8] at H
    have c8b1 : ((rd l0 x5_1) != (rd l1 x5_1)) = false := bne_eq_false_iff_eq.mpr c8
    clear c8
    have H' := Aside0.mk H
    clear H
    have p306 : 0 ≤ (x5_1 : Int) := of_decide_eq_true (by first | (with_reducible assumption) | assumption)
    have q306 : x5_1 < (l0.length : Int) := of_decide_eq_true (by first | (with_reducible assumption) | assumption)
    obtain ⟨ad306, e306, hx306_0⟩ := Kd.at_int HR0.out x5_1 p306 q306
    cases e306
    replace p306 := eq_true p306
    replace q306 := eq_true q306
    have p307 : 0 ≤ (x5_1 : Int) := of_decide_eq_true (by first | (with_reducible assumption) | assumption)
    have q307 : x5_1 < (l1.length : Int) := of_decide_eq_true (by first | (with_reducible assumption) | assumption)
    obtain ⟨ad307, e307, hx307_0⟩ := Kd.at_int HR1.out x5_1 p307 q307
    cases e307
    replace p307 := eq_true p307
    replace q307 := eq_true q307
    go_wp2
    repeat (go_quiet (fail); try go_wp2)
    go_roundg k1
    case measure => have := HK1.out; omega
    case rel => exact ⟨(wrap64 (x5_1 - 1)), (by first | rfl | (simp; done) | (simp [*]; done)), H', ⟨by have := HK1.out; omega⟩, by repeat (first | exact Drawn0.refl _ | apply Drawn0.step)⟩
  rw [if_neg c8] at H
  have c8b1 : ((rd l0 x5_1) != (rd l1 x5_1)) = true := bne_iff_ne.mpr c8
  obtain rfl := Option.some.inj H
  have p306 : 0 ≤ (x5_1 : Int) := of_decide_eq_true (by first | (with_reducible assumption) | assumption)
  have q306 : x5_1 < (l0.length : Int) := of_decide_eq_true (by first | (with_reducible assumption) | assumption)
  obtain ⟨ad306, e306, hx306_0⟩ := Kd.at_int HR0.out x5_1 p306 q306
  cases e306
  replace p306 := eq_true p306
  replace q306 := eq_true q306
  have p307 : 0 ≤ (x5_1 : Int) := of_decide_eq_true (by first | (with_reducible assumption) | assumption)
  have q307 : x5_1 < (l1.length : Int) := of_decide_eq_true (by first | (with_reducible assumption) | assumption)
  obtain ⟨ad307, e307, hx307_0⟩ := Kd.at_int HR1.out x5_1 p307 q307
  cases e307
  replace p307 := eq_true p307
  replace q307 := eq_true q307
  have p308 : 0 ≤ (x5_1 : Int) := of_decide_eq_true (by first | (with_reducible assumption) | assumption)
  have q308 : x5_1 < (l0.length : Int) := of_decide_eq_true (by first | (with_reducible assumption) | assumption)
  obtain ⟨ad308, e308, hx308_0⟩ := Kd.at_int HR0.out x5_1 p308 q308
  obtain rfl : ad306 = ad308 := (by injection e308)
  replace p308 := eq_true p308
  replace q308 := eq_true q308
  have p309 : 0 ≤ (x5_1 : Int) := of_decide_eq_true (by first | (with_reducible assumption) | assumption)
  have q309 : x5_1 < (l1.length : Int) := of_decide_eq_true (by first | (with_reducible assumption) | assumption)
  obtain ⟨ad309, e309, hx309_0⟩ := Kd.at_int HR1.out x5_1 p309 q309
  obtain rfl : ad307 = ad309 := (by injection e309)
  replace p309 := eq_true p309
  replace q309 := eq_true q309
  go_wp2
  repeat (go_quiet (fail); try go_wp2)
  go_ret
  exact ⟨by first | rfl | (simp; done) | (simp [*]; done), by repeat (first | exact Drawn0.refl _ | apply Drawn0.step)⟩

end Go.Proofs.Ytlbljdjbcbgnlaa.PX
namespace Go.Proofs.Ytlbljdjbcbgnlaa.PX
open Go.RowKit Go.Proofs.YtlbljdjbcbgnlaaW.PrintWords Go.Proofs.YtlbljdjbcbgnlaaW.PrintLast Go.Proofs.YtlbljdjbcbgnlaaW.PrintMore
attribute [local go_sem] max2_int min2_int max_two min_two max_three min_three max_four min_four   -- for this text's walks alone
set_option linter.unusedVariables false
set_option linter.unusedSimpArgs false

-- the contract of function 46 ((maskwright/maskref4.Dec).Plus): written by hand
/-! ### maskref4_Dec_Plus: function 46 -/
mutual
def plusP.l0 : Nat → List Int → Int → Int → Bool → List Int → Bool → List Int → Option (Bool × List Int)
 | 0, _, _, _, _, _, _, _ => none
 | k + 1, x5, x6, x7, x362000, x362001, x363000, x363001 => if x7 < (x362001.length : Int) then (plusP.j1 k x5 x6 x7 true x362000 x362001 x363000 x363001) else (if x7 < (x363001.length : Int) then (plusP.j1 k x5 x6 x7 true x362000 x362001 x363000 x363001) else (plusP.j1 k x5 x6 x7 (decide (x6 > 0)) x362000 x362001 x363000 x363001))
def plusP.j1 : Nat → List Int → Int → Int → Bool → Bool → List Int → Bool → List Int → Option (Bool × List Int)
 | 0, _, _, _, _, _, _, _, _ => none
 | k + 1, x5, x6, x7, x32, x362000, x362001, x363000, x363001 => if x32 = true then (if x7 < (x362001.length : Int) then (if 0 ≤ x7 then (if x7 < (x363001.length : Int) then (if x5.length < 17592186044416 then (plusP.l0 k (x5 ++ [Int.tmod (wrap64 ((wrap64 (x6 + (rd x362001 x7))) + (rd x363001 x7))) 10]) (wrap64 (Int.tdiv (wrap64 ((wrap64 (x6 + (rd x362001 x7))) + (rd x363001 x7))) 10)) (wrap64 (x7 + 1)) x362000 x362001 x363000 x363001) else (none)) else (if x5.length < 17592186044416 then (plusP.l0 k (x5 ++ [Int.tmod (wrap64 (x6 + (rd x362001 x7))) 10]) (wrap64 (Int.tdiv (wrap64 (x6 + (rd x362001 x7))) 10)) (wrap64 (x7 + 1)) x362000 x362001 x363000 x363001) else (none))) else (none)) else (if x7 < (x363001.length : Int) then (if 0 ≤ x7 then (if x5.length < 17592186044416 then (plusP.l0 k (x5 ++ [Int.tmod (wrap64 (x6 + (rd x363001 x7))) 10]) (wrap64 (Int.tdiv (wrap64 (x6 + (rd x363001 x7))) 10)) (wrap64 (x7 + 1)) x362000 x362001 x363000 x363001) else (none)) else (none)) else (if x5.length < 17592186044416 then (plusP.l0 k (x5 ++ [Int.tmod x6 10]) (wrap64 (Int.tdiv x6 10)) (wrap64 (x7 + 1)) x362000 x362001 x363000 x363001) else (none)))) else ((maskref4_trim.f x362000 x5).bind fun bt364 => (some (bt364.1, bt364.2)))
def plusP.l1 : Nat → List Int → Int → List Int → Int → Int → Bool → List Int → Bool → List Int → Option (Bool × List Int)
 | 0, _, _, _, _, _, _, _, _, _ => none
 | k + 1, x8, x9, x78, x79, x80, x362000, x362001, x363000, x363001 => if x80 < x79 then (if 0 ≤ x80 then (if x80 < (x78.length : Int) then (if x80 < (x363001.length : Int) then (if (wrap64 ((wrap64 ((rd x78 x80) - x9)) - (rd x363001 x80))) < 0 then (if x8.length < 17592186044416 then (plusP.l1 k (x8 ++ [wrap64 ((wrap64 ((wrap64 ((rd x78 x80) - x9)) - (rd x363001 x80))) + 10)]) 1 x78 x79 (wrap64 (x80 + 1)) x362000 x362001 x363000 x363001) else (none)) else (if x8.length < 17592186044416 then (plusP.l1 k (x8 ++ [wrap64 ((wrap64 ((rd x78 x80) - x9)) - (rd x363001 x80))]) 0 x78 x79 (wrap64 (x80 + 1)) x362000 x362001 x363000 x363001) else (none))) else (if (wrap64 ((rd x78 x80) - x9)) < 0 then (if x8.length < 17592186044416 then (plusP.l1 k (x8 ++ [wrap64 ((wrap64 ((rd x78 x80) - x9)) + 10)]) 1 x78 x79 (wrap64 (x80 + 1)) x362000 x362001 x363000 x363001) else (none)) else (if x8.length < 17592186044416 then (plusP.l1 k (x8 ++ [wrap64 ((rd x78 x80) - x9)]) 0 x78 x79 (wrap64 (x80 + 1)) x362000 x362001 x363000 x363001) else (none)))) else (none)) else (none)) else ((maskref4_trim.f x362000 x8).bind fun bt383 => (some (bt383.1, bt383.2)))
end
theorem plusP.mono_l : ∀ k, (∀ y0 y1 y2 y3 y4 y5 y6, LeO (plusP.l0 k y0 y1 y2 y3 y4 y5 y6) (plusP.l0 (k + 1) y0 y1 y2 y3 y4 y5 y6)) ∧ (∀ y0 y1 y2 y3 y4 y5 y6 y7, LeO (plusP.j1 k y0 y1 y2 y3 y4 y5 y6 y7) (plusP.j1 (k + 1) y0 y1 y2 y3 y4 y5 y6 y7)) ∧ (∀ y0 y1 y2 y3 y4 y5 y6 y7 y8, LeO (plusP.l1 k y0 y1 y2 y3 y4 y5 y6 y7 y8) (plusP.l1 (k + 1) y0 y1 y2 y3 y4 y5 y6 y7 y8))
 | 0 => ⟨fun _ _ _ _ _ _ _ r h => by simp [plusP.l0] at h, fun _ _ _ _ _ _ _ _ r h => by simp [plusP.j1] at h, fun _ _ _ _ _ _ _ _ _ r h => by simp [plusP.l1] at h⟩
 | k + 1 => by
  obtain ⟨ih0, ih1, ih2⟩ := plusP.mono_l k
  refine ⟨?_, ?_, ?_⟩
  · intro y0 y1 y2 y3 y4 y5 y6
    unfold plusP.l0
    repeat' first
    | (with_reducible exact ih1 _ _ _ _ _ _ _ _)
    | (with_reducible exact LeO.refl _)
    | (with_reducible exact LeO.none _)
    | (with_reducible refine LeO.ite ?_ ?_)
    | (with_reducible refine LeO.bind ?_ (fun _ => ?_))
  · intro y0 y1 y2 y3 y4 y5 y6 y7
    unfold plusP.j1
    repeat' first
    | (with_reducible exact ih0 _ _ _ _ _ _ _)
    | (with_reducible exact LeO.refl _)
    | (with_reducible exact LeO.none _)
    | (with_reducible refine LeO.ite ?_ ?_)
    | (with_reducible refine LeO.bind ?_ (fun _ => ?_))
  · intro y0 y1 y2 y3 y4 y5 y6 y7 y8
    unfold plusP.l1
    repeat' first
    | (with_reducible exact ih2 _ _ _ _ _ _ _ _ _)
    | (with_reducible exact LeO.refl _)
    | (with_reducible exact LeO.none _)
    | (with_reducible refine LeO.ite ?_ ?_)
    | (with_reducible refine LeO.bind ?_ (fun _ => ?_))
set_option maxHeartbeats 8000000 in
set_option maxRecDepth 100000 in
theorem plusP.same (k : Nat) (a0_0 : Bool) (A0_1 : Option Addr) (c0_1 : Nat) (l0_1 : List Int) (a1_0 : Bool) (A1_1 : Option Addr) (c1_1 : Nat) (l1_1 : List Int) (r1 : Bool) (r2 : List Int) (w : World) (hr0_1 : Kd.C (Kd.int .i64) w A0_1 l0_1.length l0_1) (hc0_1 : l0_1.length ≤ c0_1) (hr1_1 : Kd.C (Kd.int .i64) w A1_1 l1_1.length l1_1) (hc1_1 : l1_1.length ≤ c1_1) (c3 : (a0_0 == a1_0) = true) (H : plusP.l0 k ([] : List Int) 0 0 a0_0 l0_1 a1_0 l1_1 = some (r1, r2)) :
 Calls Try.prog 46 #[.agg #[.bool a0_0, .slice A0_1 l0_1.length c0_1], .agg #[.bool a1_0, .slice A1_1 l1_1.length c1_1]] w fun e w' => ∃ v1_ : Value, e = .returned (.agg #[.bool r1, v1_]) ∧ Kd.V (Kd.int .i64) 3 w' w.heap.size (fun k_ => (w.heap.size ≤ k_)) v1_ r2 ∧ Below w.heap.size w w' := by
 have hu36 := Try.underlying36
 have HR0_1 := Aside0.mk hr0_1
 have HC0_1 := Aside0.mk hc0_1
 clear hr0_1 hc0_1
 have HR1_1 := Aside0.mk hr1_1
 have HC1_1 := Aside0.mk hc1_1
 clear hr1_1 hc1_1
 have HB := Aside0.mk (Below.refl w.heap.size w)
 have c3b0 : (a0_0 == a1_0) = true := c3
 (try (have c3b1 : decide (a0_0 = a1_0) = true := by simpa using c3))
 (try (have c3b2 : (a0_0 == a1_0) = true := by simpa using c3))
 clear c3
 have H' := Aside0.mk H
 clear H
 go_enter Try.func46, Try.ntmps46
 go_wp2_with (first | ((with_reducible refine gate_dst (N := 2) rfl ?_); (try (refine gate_guard (by rfl) ?_; dsimp only)); refine box_event ?hg (N := 2) ?hd (cs := #[.bool a0_0, .slice A0_1 l0_1.length c0_1]) (t := 36) ?hr ?_; (case hd => rfl); (case hg => rfl); (case hr => first | (go_simp; done) | (go_simp; rfl)); intro gb361 hg w4 hbox hb; have BK361 := Aside0.mk (hbox); have GW361 := Aside0.mk (ge (w := w) hg); have GE361 := Aside0.mk (ge (w := w) hg); replace HB := Aside0.mk (below_step bl hb); clear hb hbox hg) | ((with_reducible refine gate_dst (N := 3) rfl ?_); (try (refine gate_guard (by rfl) ?_; dsimp only)); refine box_event ?hg (N := 3) ?hd (cs := #[.bool a1_0, .slice A1_1 l1_1.length c1_1]) (t := 36) ?hr ?_; (case hd => rfl); (case hg => rfl); (case hr => first | (go_simp; done) | (go_simp; rfl)); intro gb362 hg w5 hbox hb; have BK362 := Aside0.mk (hbox); have GW362 := Aside0.mk (ge (w := w) hg); have GE362 := Aside0.mk (ge (w := w) hg); replace HB := Aside0.mk (below_step bl hb); have NB361_362 := Aside0.mk (nl hg (bk BK361.out)); have NB362_361 := Aside0.mk (ng hg (bk BK361.out)); replace BK361 := Aside0.mk (bb BK361.out hb); clear hb hbox hg) | ((with_reducible refine gate_dst (N := 4) rfl ?_); (try (refine gate_guard (by rfl) ?_; dsimp only)); refine box_event ?hg (N := 4) ?hd (cs := #[.bool false, .slice none 0 0]) (t := 36) ?hr ?_; (case hd => rfl); (case hg => rfl); (case hr => first | (go_simp; done) | (go_simp; rfl)); intro gb363 hg w6 hbox hb; have BK363 := Aside0.mk (hbox); have GW363 := Aside0.mk (ge (w := w) hg); have GE363 := Aside0.mk (ge (w := w) hg); replace HB := Aside0.mk (below_step bl hb); have NB361_363 := Aside0.mk (nl hg (bk BK361.out)); have NB363_361 := Aside0.mk (ng hg (bk BK361.out)); replace BK361 := Aside0.mk (bb BK361.out hb); have NB362_363 := Aside0.mk (nl hg (bk BK362.out)); have NB363_362 := Aside0.mk (ng hg (bk BK362.out)); replace BK362 := Aside0.mk (bb BK362.out hb); clear hb hbox hg; have hnb7 := NB361_362.out; have hnc7 := NB362_361.out; have hnb8 := NB361_363.out; have hnc8 := NB363_361.out; obtain ⟨hcz9_0, hcz9_1, hfz9_0, hfz9_1⟩ := bz2 BK361.out; have hnb10 := NB362_363.out; have hnc10 := NB363_362.out; obtain ⟨hcz11_0, hcz11_1, hfz11_0, hfz11_1⟩ := bz2 BK362.out))
 go_loopg [5, 6, 7] k (fun kq v5 v6 v7 w' => ∃ (x5_1 : List Int) (x6_1 : Int) (x7_1 : Int), v6 = .int .i64 x6_1 ∧ v7 = .int .i64 x7_1 ∧ Aside0 (plusP.l0 kq x5_1 x6_1 x7_1 a0_0 l0_1 a1_0 l1_1 = some (r1, r2)) ∧ Aside0 (kq ≤ k) ∧ Aside0 (Kd.R (Kd.int .i64) 3 w' w.heap.size (fun k_ => (w.heap.size ≤ k_)) v5 x5_1) ∧ Aside0 (w'.heap[gb361]? = some (.cells #[.bool a0_0, (.slice A0_1 l0_1.length c0_1)] 36 (0, 0))) ∧ Aside0 (w'.heap[gb362]? = some (.cells #[.bool a1_0, (.slice A1_1 l1_1.length c1_1)] 36 (0, 0))) ∧ Aside0 (w'.heap[gb363]? = some (.cells #[.bool false, (.slice none 0 0)] 36 (0, 0))) ∧ Aside0 (Below w.heap.size w w'))
 case atStart => exact ⟨(([] : List Int)), (0), (0), (by first | rfl | (simp; done) | (simp [*]; done)), (by first | rfl | (simp; done) | (simp [*]; done)), H', ⟨Nat.le_refl _⟩, ⟨by first | exact Kd.R_nil _ _ _ _ _ | exact Kd.N_nil _ _ _ _ _ | exact Kd.V_nil _ _ _ _ _ | exact Kd.Q_nil _ _ _ _ _ | exact Kd.S_nil _ _ _ _ _⟩, ⟨bk BK361.out⟩, ⟨bk BK362.out⟩, ⟨bk BK363.out⟩, ⟨bl⟩⟩
 clear H'
 clear c3b0 c3b1 c3b2 hcz11_0 hcz11_1 hcz9_0 hcz9_1 hfz11_0 hfz11_1 hfz9_0 hfz9_1
 obtain ⟨x5_1, x6_1, x7_1, rfl, rfl, HA, HK1, HO_5, BK361, BK362, BK363, HB⟩ := hrel
 cases gk with
 | zero => exact absurd HA.out (by simp [plusP.l0])
 | succ k1 =>
  have H := HA.out
  clear HA
  simp only [plusP.l0] at H
  have HC12 := Aside0.mk H
  clear H
  go_upto_region 5 with (fail)
  go_cut [32] (fun v32 wc => ∃ (kq : Nat) (x32_11 : Bool), v32 = .bool x32_11 ∧ Aside0 (plusP.j1 kq x5_1 x6_1 x7_1 x32_11 a0_0 l0_1 a1_0 l1_1 = some (r1, r2)) ∧ Aside0 (kq ≤ k1) ∧ Aside0 (Kd.R (Kd.int .i64) 3 wc w.heap.size (fun k_ => (w.heap.size ≤ k_)) u5 x5_1) ∧ Aside0 (wc.heap[gb361]? = some (.cells #[.bool a0_0, (.slice A0_1 l0_1.length c0_1)] 36 (0, 0))) ∧ Aside0 (wc.heap[gb362]? = some (.cells #[.bool a1_0, (.slice A1_1 l1_1.length c1_1)] 36 (0, 0))) ∧ Aside0 (wc.heap[gb363]? = some (.cells #[.bool false, (.slice none 0 0)] 36 (0, 0))) ∧ Aside0 (Below w.heap.size w wc))
  case first =>
   have H := HC12.out
   clear HC12
   by_cases c13 : x7_1 < (l0_1.length : Int)
   · rw [if_pos c13] at H
     have c13b0 : decide (x7_1 < (l0_1.length : Int)) = true := decide_eq_true c13
     clear c13
     (first | rw [c13b0] | (simp only [i64_w, i32_w]; rw [c13b0]) | skip)
     have H' := Aside0.mk H
     clear H
     have hnb14 := NB361_362.out
     have hnc14 := NB362_361.out
     have hnb15 := NB361_363.out
     have hnc15 := NB363_361.out
     obtain ⟨hcz16_0, hcz16_1, hfz16_0, hfz16_1⟩ := bz2 BK361.out
     go_wp2
     go_meet
     case rel => exact ⟨_, (true), (by first | rfl | (simp; done) | (simp [*]; done)), H', ⟨by have := HK1.out; first | omega | exact Nat.le_refl _⟩, ⟨by (with_reducible repeat (first | apply Kd.R_alloc | apply Kd.R_drewN | apply Kd.R_drew)); exact HO_5.out⟩, ⟨bk BK361.out⟩, ⟨bk BK362.out⟩, ⟨bk BK363.out⟩, ⟨bl⟩⟩
   rw [if_neg c13] at H
   have c13b0 : decide (x7_1 < (l0_1.length : Int)) = false := decide_eq_false c13
   clear c13
   (first | rw [c13b0] | (simp only [i64_w, i32_w]; rw [c13b0]) | skip)
   by_cases c17 : x7_1 < (l1_1.length : Int)
   · rw [if_pos c17] at H
     have c17b0 : decide (x7_1 < (l1_1.length : Int)) = true := decide_eq_true c17
     clear c17
     have H' := Aside0.mk H
     clear H
     have hnb18 := NB361_362.out
     have hnc18 := NB362_361.out
     have hnb19 := NB361_363.out
     have hnc19 := NB363_361.out
     obtain ⟨hcz20_0, hcz20_1, hfz20_0, hfz20_1⟩ := bz2 BK361.out
     have hnb21 := NB362_363.out
     have hnc21 := NB363_362.out
     obtain ⟨hcz22_0, hcz22_1, hfz22_0, hfz22_1⟩ := bz2 BK362.out
     go_wp2
     go_meet
     case rel => exact ⟨_, (true), (by first | rfl | (simp; done) | (simp [*]; done)), H', ⟨by have := HK1.out; first | omega | exact Nat.le_refl _⟩, ⟨by (with_reducible repeat (first | apply Kd.R_alloc | apply Kd.R_drewN | apply Kd.R_drew)); exact HO_5.out⟩, ⟨bk BK361.out⟩, ⟨bk BK362.out⟩, ⟨bk BK363.out⟩, ⟨bl⟩⟩
   rw [if_neg c17] at H
   have c17b0 : decide (x7_1 < (l1_1.length : Int)) = false := decide_eq_false c17
   clear c17
   have H' := Aside0.mk H
   clear H
   have hnb23 := NB361_362.out
   have hnc23 := NB362_361.out
   have hnb24 := NB361_363.out
   have hnc24 := NB363_361.out
   obtain ⟨hcz25_0, hcz25_1, hfz25_0, hfz25_1⟩ := bz2 BK361.out
   have hnb26 := NB362_363.out
   have hnc26 := NB363_362.out
   obtain ⟨hcz27_0, hcz27_1, hfz27_0, hfz27_1⟩ := bz2 BK362.out
   go_wp2
   go_meet
   case rel => exact ⟨_, (decide (x6_1 > 0)), (by first | rfl | (simp; done) | (simp [*]; done)), H', ⟨by have := HK1.out; first | omega | exact Nat.le_refl _⟩, ⟨by (with_reducible repeat (first | apply Kd.R_alloc | apply Kd.R_drewN | apply Kd.R_drew)); exact HO_5.out⟩, ⟨bk BK361.out⟩, ⟨bk BK362.out⟩, ⟨bk BK363.out⟩, ⟨bl⟩⟩
  clear HC12
  obtain ⟨kq, x32_11, rfl, HA, HJ11, HO_5, BK361, BK362, BK363, HB⟩ := hcut
  cases kq with
  | zero => exact absurd HA.out (by simp [plusP.j1])
  | succ kj11 =>
   have H := HA.out
   clear HA
   simp only [plusP.j1] at H
   by_cases c28 : x32_11 = true
   rotate_left
   · replace c28 := Bool.eq_false_iff.mpr c28
     subst c28
     have H1 : ((maskref4_trim.f a0_0 x5_1).bind fun bt364 => (some (bt364.1, bt364.2))) = some (r1, r2) := by rw [if_neg (show ¬ (false = true) by decide)] at H; exact H
     clear H
     have H := H1
     clear H1
     replace H := Option.bind_eq_some_iff.mp H
     obtain ⟨⟨t364, t365⟩, A620, H⟩ := H
     replace H : (some (t364, t365)) = some (r1, r2) := H
     have A62 := Aside0.mk A620
     clear A620
     simp only [Option.some.injEq, Prod.mk.injEq] at H
     obtain ⟨rfl, rfl⟩ := H
     have hnb63 := NB361_362.out
     have hnc63 := NB362_361.out
     have hnb64 := NB361_363.out
     have hnc64 := NB363_361.out
     obtain ⟨hcz65_0, hcz65_1, hfz65_0, hfz65_1⟩ := bz2 BK361.out
     obtain ⟨Ao66, co66, eo66⟩ := Kd.R_slice HO_5.out
     subst eo66
     go_wp2_with ((with_reducible refine gate_callee (f := 66) rfl ?_); refine goesL_ (some 69) rfl rfl Try.func66 (by kernel_rfl) rfl #[.bool a0_0, .slice Ao66 x5_1.length co66] rfl (by (try simp only [List.map_toArray, List.map_cons, List.map_nil]); first | done | rfl | (simp only [List.length_drop, List.length_take]; rfl)) ?_; (with_reducible refine (maskref4_trim.calls a0_0 (fun k_ => some k_ = (.slice Ao66 x5_1.length co66 : Value).ownBlock) _ _ x5_1 t364 t365 _ ?side1 A62.out).mono ?_); (case side1 => exact Kd.R_V (Kd.R_tight rfl (Kd.R_types (Kd.R_types (Kd.R_types (HO_5.out) BK361.out (by decide)) BK362.out (by decide)) BK363.out (by decide)))); rintro e w67 ⟨v366, rfl, ho0, hb⟩; refine ⟨_, rfl, ?_⟩; have HO367 := Aside0.mk (Kd.V_lower (Kd.V_mono (ok' := fun k_ => (w.heap.size ≤ k_) ∧ k_ ≠ gb361 ∧ k_ ≠ gb362 ∧ k_ ≠ gb363) ho0 (fun k_ hk_ => ⟨Or.elim hk_ (fun hs_ => ((Kd.R_types (Kd.R_types (Kd.R_types (HO_5.out) BK361.out (by decide)) BK362.out (by decide)) BK363.out (by decide)).1 k_ hs_.symm).1.1.1) (fun hn_ => (Nat.le_trans (below_size bl) hn_)), Or.elim hk_ (fun hs_ => ((Kd.R_types (Kd.R_types (Kd.R_types (HO_5.out) BK361.out (by decide)) BK362.out (by decide)) BK363.out (by decide)).1 k_ hs_.symm).1.1.2) (fun hn_ => (Kd.freshB (g := gb361) (o := .cells #[.bool a0_0, .slice A0_1 l0_1.length c0_1] 36 (0, 0)) (bk BK361.out) k_ hn_)), Or.elim hk_ (fun hs_ => ((Kd.R_types (Kd.R_types (Kd.R_types (HO_5.out) BK361.out (by decide)) BK362.out (by decide)) BK363.out (by decide)).1 k_ hs_.symm).1.2) (fun hn_ => (Kd.freshB (g := gb362) (o := .cells #[.bool a1_0, .slice A1_1 l1_1.length c1_1] 36 (0, 0)) (bk BK362.out) k_ hn_)), Or.elim hk_ (fun hs_ => ((Kd.R_types (Kd.R_types (Kd.R_types (HO_5.out) BK361.out (by decide)) BK362.out (by decide)) BK363.out (by decide)).1 k_ hs_.symm).2) (fun hn_ => (Kd.freshB (g := gb363) (o := .cells #[.bool false, .slice none 0 0] 36 (0, 0)) (bk BK363.out) k_ hn_))⟩)) (below_size bl)); replace HO_5 := Aside0.mk (rb HO_5.out hb); replace BK361 := Aside0.mk (bb BK361.out hb); replace BK362 := Aside0.mk (bb BK362.out hb); replace BK363 := Aside0.mk (bb BK363.out hb); replace HB := Aside0.mk (below_step bl hb); (try clear hb); (try clear ho0); have hnb68 := NB363_362.out; have hnc68 := NB362_363.out; obtain ⟨hcz69_0, hcz69_1, hfz69_0, hfz69_1⟩ := bz2 BK363.out; obtain ⟨Ao70, co70, eo70⟩ := Kd.V_slice HO367.out; subst eo70)
     refine bodyPost_ret (results_cell_row rfl _ _ gb363 36 #[.bool t364, .slice Ao70 t365.length co70] (0, 0) _ rfl (by (with_reducible repeat (first | refine blk_drewN ?_ _ | refine blk_drew ?_ | refine blk_alloc ?_ _)); refine blk_put (cs := #[.bool t364, .slice none 0 0]) ?_ 1 _ rfl; (with_reducible repeat (first | refine blk_drewN ?_ _ | refine blk_drew ?_ | refine blk_alloc ?_ _)); refine blk_put (cs := #[.bool false, .slice none 0 0]) ?_ 0 _ rfl; (with_reducible repeat (first | refine blk_drewN ?_ _ | refine blk_drew ?_ | refine blk_alloc ?_ _)); exact BK363.out) Try.underlying36 rfl (by kernel_rfl)) rfl ?_
     exact ⟨_, by first | rfl | (simp [errW_none, errW_some] <;> rfl) | (simp [*, errW_none, errW_some] <;> rfl), by (with_reducible repeat (first | apply Kd.V_alloc | apply Kd.V_drewN | apply Kd.V_drew)); exact Kd.V_mono (Kd.V_far (p := ⟨gb363, 1, none⟩) (Kd.V_far (p := ⟨gb363, 0, none⟩) (Kd.V_mono HO367.out (fun k_ hk => (⟨hk, hk.2.2.2⟩ : _ ∧ k_ ≠ gb363))) (fun _ hk => hk.2) (.bool t364)) (fun _ hk => hk.2) (.slice Ao70 t365.length co70)) (fun _ hk => hk.1.1), bl⟩
   subst c28
   have H1 : (if x7_1 < (l0_1.length : Int) then (if 0 ≤ x7_1 then (if x7_1 < (l1_1.length : Int) then (if x5_1.length < 17592186044416 then (plusP.l0 kj11 (x5_1 ++ [Int.tmod (wrap64 ((wrap64 (x6_1 + (rd l0_1 x7_1))) + (rd l1_1 x7_1))) 10]) (wrap64 (Int.tdiv (wrap64 ((wrap64 (x6_1 + (rd l0_1 x7_1))) + (rd l1_1 x7_1))) 10)) (wrap64 (x7_1 + 1)) a0_0 l0_1 a1_0 l1_1) else (none)) else (if x5_1.length < 17592186044416 then (plusP.l0 kj11 (x5_1 ++ [Int.tmod (wrap64 (x6_1 + (rd l0_1 x7_1))) 10]) (wrap64 (Int.tdiv (wrap64 (x6_1 + (rd l0_1 x7_1))) 10)) (wrap64 (x7_1 + 1)) a0_0 l0_1 a1_0 l1_1) else (none))) else (none)) else (if x7_1 < (l1_1.length : Int) then (if 0 ≤ x7_1 then (if x5_1.length < 17592186044416 then (plusP.l0 kj11 (x5_1 ++ [Int.tmod (wrap64 (x6_1 + (rd l1_1 x7_1))) 10]) (wrap64 (Int.tdiv (wrap64 (x6_1 + (rd l1_1 x7_1))) 10)) (wrap64 (x7_1 + 1)) a0_0 l0_1 a1_0 l1_1) else (none)) else (none)) else (if x5_1.length < 17592186044416 then (plusP.l0 kj11 (x5_1 ++ [Int.tmod x6_1 10]) (wrap64 (Int.tdiv x6_1 10)) (wrap64 (x7_1 + 1)) a0_0 l0_1 a1_0 l1_1) else (none)))) = some (r1, r2) := by rw [if_pos rfl] at H; exact H
   clear H
   have H := H1
   clear H1
   by_cases c29 : x7_1 < (l0_1.length : Int)
   rotate_left
   · rw [if_neg c29] at H
     have c29b0 : decide (x7_1 < (l0_1.length : Int)) = false := decide_eq_false c29
     clear c29
     by_cases c46 : x7_1 < (l1_1.length : Int)
     rotate_left
     · rw [if_neg c46] at H
       have c46b0 : decide (x7_1 < (l1_1.length : Int)) = false := decide_eq_false c46
       clear c46
       by_cases c55 : x5_1.length < 17592186044416
       rotate_left
       · rw [if_neg c55] at H
         exact absurd H (by simp)
       rw [if_pos c55] at H
       have LMc55 := Aside0.mk c55
       clear c55
       obtain ⟨y380, hy380⟩ : ∃ y_ : List Int, y_ = (x5_1 ++ [Int.tmod x6_1 10]) := ⟨_, rfl⟩
       replace H : (plusP.l0 kj11 y380 (wrap64 (Int.tdiv x6_1 10)) (wrap64 (x7_1 + 1)) a0_0 l0_1 a1_0 l1_1) = some (r1, r2) := by first | (rw [hy380]; with_reducible exact H) | (have H2_ := (Option.bind_some _ _).symm.trans H; rw [hy380]; with_reducible exact H2_) | (have H2_ := (Option.bind_some _ _).symm.trans H; with_reducible exact H2_) | with_reducible exact H | (rw [hy380]; exact H) | exact H
       have Ny380 := Aside0.mk hy380
       clear hy380
       have H' := Aside0.mk H
       clear H
       have hnb56 := NB361_362.out
       have hnc56 := NB362_361.out
       have hnb57 := NB361_363.out
       have hnc57 := NB363_361.out
       obtain ⟨hcz58_0, hcz58_1, hfz58_0, hfz58_1⟩ := bz2 BK361.out
       have hnb59 := NB362_363.out
       have hnc59 := NB363_362.out
       obtain ⟨hcz60_0, hcz60_1, hfz60_0, hfz60_1⟩ := bz2 BK362.out
       go_wp2_with ((with_reducible refine gate_builtin (b := .append) (xs := #[.tmp 59, .tmp 62]) rfl ?_); (try (refine gate_guard (by rfl) ?_; dsimp only)); at_builtin; refine Kd.R_append (Kd.int .i64) (w0 := w) w.heap.size rfl (.tmp 59) (.tmp 62) 34 3 (.int .i64 0) 8 rfl Try.underlying34 info3 rfl (by decide) (by omega) u5 x5_1 (Int.tmod x6_1 10) [.int .i64 (Int.tmod x6_1 10)] (fun k_ => (w.heap.size ≤ k_)) (fun _ => False) rfl rfl ?aP (fun _ hk => hk.elim) ?aF ?aO ?aB ?aS ?aL ?_; (case aP => exact rfl); (case aB => exact bl); (case aF => exact (fun k_ hk => (Nat.le_trans (below_size bl) hk))); (case aO => exact (by (with_reducible repeat (first | apply Kd.R_alloc | apply Kd.R_drewN | apply Kd.R_drew)); exact HO_5.out)); (case aS => exact (below_size bl)); (case aL => have := LMc55.out; omega); intro v381 w61 ho hb hg hat; rw [← Ny380.out] at ho; replace BK361 := Aside0.mk (blk_grown (bk BK361.out) hg (Kd.R_ne HO_5.out BK361.out (by decide))); replace BK362 := Aside0.mk (blk_grown (bk BK362.out) hg (Kd.R_ne HO_5.out BK362.out (by decide))); replace BK363 := Aside0.mk (blk_grown (bk BK363.out) hg (Kd.R_ne HO_5.out BK363.out (by decide))); replace HB := Aside0.mk (hb); have HO382 := Aside0.mk (ho); clear HO_5; clear ho hb hg hat)
       go_roundg kj11
       case measure => have := HK1.out; have := HJ11.out; omega
       case rel => exact ⟨(y380), (wrap64 (Int.tdiv x6_1 10)), (wrap64 (x7_1 + 1)), (by first | rfl | (simp; done) | (simp [*]; done)), (by first | rfl | (simp; done) | (simp [*]; done)), H', ⟨by have := HK1.out; have := HJ11.out; omega⟩, ⟨by (with_reducible repeat (first | apply Kd.R_alloc | apply Kd.R_drewN | apply Kd.R_drew)); exact HO382.out⟩, ⟨bk BK361.out⟩, ⟨bk BK362.out⟩, ⟨bk BK363.out⟩, ⟨bl⟩⟩
     rw [if_pos c46] at H
     have c46b0 : decide (x7_1 < (l1_1.length : Int)) = true := decide_eq_true c46
     clear c46
     by_cases c47 : 0 ≤ x7_1
     rotate_left
     · rw [if_neg c47] at H
       exact absurd H (by simp)
     rw [if_pos c47] at H
     have c47b0 : decide (0 ≤ x7_1) = true := decide_eq_true c47
     clear c47
     by_cases c48 : x5_1.length < 17592186044416
     rotate_left
     · rw [if_neg c48] at H
       exact absurd H (by simp)
     rw [if_pos c48] at H
     have LMc48 := Aside0.mk c48
     clear c48
     obtain ⟨y377, hy377⟩ : ∃ y_ : List Int, y_ = (x5_1 ++ [Int.tmod (wrap64 (x6_1 + (rd l1_1 x7_1))) 10]) := ⟨_, rfl⟩
     replace H : (plusP.l0 kj11 y377 (wrap64 (Int.tdiv (wrap64 (x6_1 + (rd l1_1 x7_1))) 10)) (wrap64 (x7_1 + 1)) a0_0 l0_1 a1_0 l1_1) = some (r1, r2) := by first | (rw [hy377]; with_reducible exact H) | (have H2_ := (Option.bind_some _ _).symm.trans H; rw [hy377]; with_reducible exact H2_) | (have H2_ := (Option.bind_some _ _).symm.trans H; with_reducible exact H2_) | with_reducible exact H | (rw [hy377]; exact H) | exact H
     have Ny377 := Aside0.mk hy377
     clear hy377
     have H' := Aside0.mk H
     clear H
     have hnb49 := NB361_362.out
     have hnc49 := NB362_361.out
     have hnb50 := NB361_363.out
     have hnc50 := NB363_361.out
     obtain ⟨hcz51_0, hcz51_1, hfz51_0, hfz51_1⟩ := bz2 BK361.out
     have hnb52 := NB362_363.out
     have hnc52 := NB363_362.out
     obtain ⟨hcz53_0, hcz53_1, hfz53_0, hfz53_1⟩ := bz2 BK362.out
     have p376 : 0 ≤ (x7_1 : Int) := of_decide_eq_true (by first | (with_reducible assumption) | assumption)
     have q376 : x7_1 < (l1_1.length : Int) := of_decide_eq_true (by first | (with_reducible assumption) | assumption)
     obtain ⟨ad376, e376, hx376_0⟩ := Kd.at_int HR1_1.out x7_1 p376 q376
     cases e376
     replace hx376_0 := hc HB.out hx376_0
     replace p376 := eq_true p376
     replace q376 := eq_true q376
     go_wp2_with ((with_reducible refine gate_builtin (b := .append) (xs := #[.tmp 59, .tmp 62]) rfl ?_); (try (refine gate_guard (by rfl) ?_; dsimp only)); at_builtin; refine Kd.R_append (Kd.int .i64) (w0 := w) w.heap.size rfl (.tmp 59) (.tmp 62) 34 3 (.int .i64 0) 8 rfl Try.underlying34 info3 rfl (by decide) (by omega) u5 x5_1 (Int.tmod (wrap64 (x6_1 + (rd l1_1 x7_1))) 10) [.int .i64 (Int.tmod (wrap64 (x6_1 + (rd l1_1 x7_1))) 10)] (fun k_ => (w.heap.size ≤ k_)) (fun _ => False) rfl rfl ?aP (fun _ hk => hk.elim) ?aF ?aO ?aB ?aS ?aL ?_; (case aP => exact rfl); (case aB => exact bl); (case aF => exact (fun k_ hk => (Nat.le_trans (below_size bl) hk))); (case aO => exact (by (with_reducible repeat (first | apply Kd.R_alloc | apply Kd.R_drewN | apply Kd.R_drew)); exact HO_5.out)); (case aS => exact (below_size bl)); (case aL => have := LMc48.out; omega); intro v378 w54 ho hb hg hat; rw [← Ny377.out] at ho; replace BK361 := Aside0.mk (blk_grown (bk BK361.out) hg (Kd.R_ne HO_5.out BK361.out (by decide))); replace BK362 := Aside0.mk (blk_grown (bk BK362.out) hg (Kd.R_ne HO_5.out BK362.out (by decide))); replace BK363 := Aside0.mk (blk_grown (bk BK363.out) hg (Kd.R_ne HO_5.out BK363.out (by decide))); replace HB := Aside0.mk (hb); have HO379 := Aside0.mk (ho); clear HO_5; clear ho hb hg hat)
     go_roundg kj11
     case measure => have := HK1.out; have := HJ11.out; omega
     case rel => exact ⟨(y377), (wrap64 (Int.tdiv (wrap64 (x6_1 + (rd l1_1 x7_1))) 10)), (wrap64 (x7_1 + 1)), (by first | rfl | (simp; done) | (simp [*]; done)), (by first | rfl | (simp; done) | (simp [*]; done)), H', ⟨by have := HK1.out; have := HJ11.out; omega⟩, ⟨by (with_reducible repeat (first | apply Kd.R_alloc | apply Kd.R_drewN | apply Kd.R_drew)); exact HO379.out⟩, ⟨bk BK361.out⟩, ⟨bk BK362.out⟩, ⟨bk BK363.out⟩, ⟨bl⟩⟩
   rw [if_pos c29] at H
   have c29b0 : decide (x7_1 < (l0_1.length : Int)) = true := decide_eq_true c29
   clear c29
   by_cases c30 : 0 ≤ x7_1
   rotate_left
   · rw [if_neg c30] at H
     exact absurd H (by simp)
   rw [if_pos c30] at H
   have c30b0 : decide (0 ≤ x7_1) = true := decide_eq_true c30
   clear c30
   by_cases c31 : x7_1 < (l1_1.length : Int)
   rotate_left
   · rw [if_neg c31] at H
     have c31b0 : decide (x7_1 < (l1_1.length : Int)) = false := decide_eq_false c31
     clear c31
     by_cases c39 : x5_1.length < 17592186044416
     rotate_left
     · rw [if_neg c39] at H
       exact absurd H (by simp)
     rw [if_pos c39] at H
     have LMc39 := Aside0.mk c39
     clear c39
     obtain ⟨y373, hy373⟩ : ∃ y_ : List Int, y_ = (x5_1 ++ [Int.tmod (wrap64 (x6_1 + (rd l0_1 x7_1))) 10]) := ⟨_, rfl⟩
     replace H : (plusP.l0 kj11 y373 (wrap64 (Int.tdiv (wrap64 (x6_1 + (rd l0_1 x7_1))) 10)) (wrap64 (x7_1 + 1)) a0_0 l0_1 a1_0 l1_1) = some (r1, r2) := by first | (rw [hy373]; with_reducible exact H) | (have H2_ := (Option.bind_some _ _).symm.trans H; rw [hy373]; with_reducible exact H2_) | (have H2_ := (Option.bind_some _ _).symm.trans H; with_reducible exact H2_) | with_reducible exact H | (rw [hy373]; exact H) | exact H
     have Ny373 := Aside0.mk hy373
     clear hy373
     have H' := Aside0.mk H
     clear H
     have hnb40 := NB361_362.out
     have hnc40 := NB362_361.out
     have hnb41 := NB361_363.out
     have hnc41 := NB363_361.out
     obtain ⟨hcz42_0, hcz42_1, hfz42_0, hfz42_1⟩ := bz2 BK361.out
     have p368 : 0 ≤ (x7_1 : Int) := of_decide_eq_true (by first | (with_reducible assumption) | assumption)
     have q368 : x7_1 < (l0_1.length : Int) := of_decide_eq_true (by first | (with_reducible assumption) | assumption)
     obtain ⟨ad368, e368, hx368_0⟩ := Kd.at_int HR0_1.out x7_1 p368 q368
     cases e368
     replace hx368_0 := hc HB.out hx368_0
     replace p368 := eq_true p368
     replace q368 := eq_true q368
     have hnb43 := NB362_363.out
     have hnc43 := NB363_362.out
     obtain ⟨hcz44_0, hcz44_1, hfz44_0, hfz44_1⟩ := bz2 BK362.out
     go_wp2_with ((with_reducible refine gate_builtin (b := .append) (xs := #[.tmp 59, .tmp 62]) rfl ?_); (try (refine gate_guard (by rfl) ?_; dsimp only)); at_builtin; refine Kd.R_append (Kd.int .i64) (w0 := w) w.heap.size rfl (.tmp 59) (.tmp 62) 34 3 (.int .i64 0) 8 rfl Try.underlying34 info3 rfl (by decide) (by omega) u5 x5_1 (Int.tmod (wrap64 (x6_1 + (rd l0_1 x7_1))) 10) [.int .i64 (Int.tmod (wrap64 (x6_1 + (rd l0_1 x7_1))) 10)] (fun k_ => (w.heap.size ≤ k_)) (fun _ => False) rfl rfl ?aP (fun _ hk => hk.elim) ?aF ?aO ?aB ?aS ?aL ?_; (case aP => exact rfl); (case aB => exact bl); (case aF => exact (fun k_ hk => (Nat.le_trans (below_size bl) hk))); (case aO => exact (by (with_reducible repeat (first | apply Kd.R_alloc | apply Kd.R_drewN | apply Kd.R_drew)); exact HO_5.out)); (case aS => exact (below_size bl)); (case aL => have := LMc39.out; omega); intro v374 w45 ho hb hg hat; rw [← Ny373.out] at ho; replace BK361 := Aside0.mk (blk_grown (bk BK361.out) hg (Kd.R_ne HO_5.out BK361.out (by decide))); replace BK362 := Aside0.mk (blk_grown (bk BK362.out) hg (Kd.R_ne HO_5.out BK362.out (by decide))); replace BK363 := Aside0.mk (blk_grown (bk BK363.out) hg (Kd.R_ne HO_5.out BK363.out (by decide))); replace HB := Aside0.mk (hb); have HO375 := Aside0.mk (ho); clear HO_5; clear ho hb hg hat)
     go_roundg kj11
     case measure => have := HK1.out; have := HJ11.out; omega
     case rel => exact ⟨(y373), (wrap64 (Int.tdiv (wrap64 (x6_1 + (rd l0_1 x7_1))) 10)), (wrap64 (x7_1 + 1)), (by first | rfl | (simp; done) | (simp [*]; done)), (by first | rfl | (simp; done) | (simp [*]; done)), H', ⟨by have := HK1.out; have := HJ11.out; omega⟩, ⟨by (with_reducible repeat (first | apply Kd.R_alloc | apply Kd.R_drewN | apply Kd.R_drew)); exact HO375.out⟩, ⟨bk BK361.out⟩, ⟨bk BK362.out⟩, ⟨bk BK363.out⟩, ⟨bl⟩⟩
   rw [if_pos c31] at H
   have c31b0 : decide (x7_1 < (l1_1.length : Int)) = true := decide_eq_true c31
   clear c31
   by_cases c32 : x5_1.length < 17592186044416
   rotate_left
   · rw [if_neg c32] at H
     exact absurd H (by simp)
   rw [if_pos c32] at H
   have LMc32 := Aside0.mk c32
   clear c32
   obtain ⟨y370, hy370⟩ : ∃ y_ : List Int, y_ = (x5_1 ++ [Int.tmod (wrap64 ((wrap64 (x6_1 + (rd l0_1 x7_1))) + (rd l1_1 x7_1))) 10]) := ⟨_, rfl⟩
   replace H : (plusP.l0 kj11 y370 (wrap64 (Int.tdiv (wrap64 ((wrap64 (x6_1 + (rd l0_1 x7_1))) + (rd l1_1 x7_1))) 10)) (wrap64 (x7_1 + 1)) a0_0 l0_1 a1_0 l1_1) = some (r1, r2) := by first | (rw [hy370]; with_reducible exact H) | (have H2_ := (Option.bind_some _ _).symm.trans H; rw [hy370]; with_reducible exact H2_) | (have H2_ := (Option.bind_some _ _).symm.trans H; with_reducible exact H2_) | with_reducible exact H | (rw [hy370]; exact H) | exact H
   have Ny370 := Aside0.mk hy370
   clear hy370
   have H' := Aside0.mk H
   clear H
   have hnb33 := NB361_362.out
   have hnc33 := NB362_361.out
   have hnb34 := NB361_363.out
   have hnc34 := NB363_361.out
   obtain ⟨hcz35_0, hcz35_1, hfz35_0, hfz35_1⟩ := bz2 BK361.out
   have p368 : 0 ≤ (x7_1 : Int) := of_decide_eq_true (by first | (with_reducible assumption) | assumption)
   have q368 : x7_1 < (l0_1.length : Int) := of_decide_eq_true (by first | (with_reducible assumption) | assumption)
   obtain ⟨ad368, e368, hx368_0⟩ := Kd.at_int HR0_1.out x7_1 p368 q368
   cases e368
   replace hx368_0 := hc HB.out hx368_0
   replace p368 := eq_true p368
   replace q368 := eq_true q368
   have hnb36 := NB362_363.out
   have hnc36 := NB363_362.out
   obtain ⟨hcz37_0, hcz37_1, hfz37_0, hfz37_1⟩ := bz2 BK362.out
   have p369 : 0 ≤ (x7_1 : Int) := of_decide_eq_true (by first | (with_reducible assumption) | assumption)
   have q369 : x7_1 < (l1_1.length : Int) := of_decide_eq_true (by first | (with_reducible assumption) | assumption)
   obtain ⟨ad369, e369, hx369_0⟩ := Kd.at_int HR1_1.out x7_1 p369 q369
   cases e369
   replace hx369_0 := hc HB.out hx369_0
   replace p369 := eq_true p369
   replace q369 := eq_true q369
   go_wp2_with ((with_reducible refine gate_builtin (b := .append) (xs := #[.tmp 59, .tmp 62]) rfl ?_); (try (refine gate_guard (by rfl) ?_; dsimp only)); at_builtin; refine Kd.R_append (Kd.int .i64) (w0 := w) w.heap.size rfl (.tmp 59) (.tmp 62) 34 3 (.int .i64 0) 8 rfl Try.underlying34 info3 rfl (by decide) (by omega) u5 x5_1 (Int.tmod (wrap64 ((wrap64 (x6_1 + (rd l0_1 x7_1))) + (rd l1_1 x7_1))) 10) [.int .i64 (Int.tmod (wrap64 ((wrap64 (x6_1 + (rd l0_1 x7_1))) + (rd l1_1 x7_1))) 10)] (fun k_ => (w.heap.size ≤ k_)) (fun _ => False) rfl rfl ?aP (fun _ hk => hk.elim) ?aF ?aO ?aB ?aS ?aL ?_; (case aP => exact rfl); (case aB => exact bl); (case aF => exact (fun k_ hk => (Nat.le_trans (below_size bl) hk))); (case aO => exact (by (with_reducible repeat (first | apply Kd.R_alloc | apply Kd.R_drewN | apply Kd.R_drew)); exact HO_5.out)); (case aS => exact (below_size bl)); (case aL => have := LMc32.out; omega); intro v371 w38 ho hb hg hat; rw [← Ny370.out] at ho; replace BK361 := Aside0.mk (blk_grown (bk BK361.out) hg (Kd.R_ne HO_5.out BK361.out (by decide))); replace BK362 := Aside0.mk (blk_grown (bk BK362.out) hg (Kd.R_ne HO_5.out BK362.out (by decide))); replace BK363 := Aside0.mk (blk_grown (bk BK363.out) hg (Kd.R_ne HO_5.out BK363.out (by decide))); replace HB := Aside0.mk (hb); have HO372 := Aside0.mk (ho); clear HO_5; clear ho hb hg hat)
   go_roundg kj11
   case measure => have := HK1.out; have := HJ11.out; omega
   case rel => exact ⟨(y370), (wrap64 (Int.tdiv (wrap64 ((wrap64 (x6_1 + (rd l0_1 x7_1))) + (rd l1_1 x7_1))) 10)), (wrap64 (x7_1 + 1)), (by first | rfl | (simp; done) | (simp [*]; done)), (by first | rfl | (simp; done) | (simp [*]; done)), H', ⟨by have := HK1.out; have := HJ11.out; omega⟩, ⟨by (with_reducible repeat (first | apply Kd.R_alloc | apply Kd.R_drewN | apply Kd.R_drew)); exact HO372.out⟩, ⟨bk BK361.out⟩, ⟨bk BK362.out⟩, ⟨bk BK363.out⟩, ⟨bl⟩⟩
set_option maxHeartbeats 8000000 in
set_option maxRecDepth 100000 in
theorem plusP.diffA (k : Nat) (a0_0 : Bool) (A0_1 : Option Addr) (c0_1 : Nat) (l0_1 : List Int) (a1_0 : Bool) (A1_1 : Option Addr) (c1_1 : Nat) (l1_1 : List Int) (r1 : Bool) (r2 : List Int) (w : World) (hr0_1 : Kd.C (Kd.int .i64) w A0_1 l0_1.length l0_1) (hc0_1 : l0_1.length ≤ c0_1) (hr1_1 : Kd.C (Kd.int .i64) w A1_1 l1_1.length l1_1) (hc1_1 : l1_1.length ≤ c1_1) (c3 : ¬ (a0_0 == a1_0) = true) (hl : maskref4_less.f k l0_1 l1_1 = some false) (H : plusP.l1 k ([] : List Int) 0 l0_1 (l0_1.length : Int) 0 a0_0 l0_1 a1_0 l1_1 = some (r1, r2)) :
 Calls Try.prog 46 #[.agg #[.bool a0_0, .slice A0_1 l0_1.length c0_1], .agg #[.bool a1_0, .slice A1_1 l1_1.length c1_1]] w fun e w' => ∃ v1_ : Value, e = .returned (.agg #[.bool r1, v1_]) ∧ Kd.V (Kd.int .i64) 3 w' w.heap.size (fun k_ => (w.heap.size ≤ k_)) v1_ r2 ∧ Below w.heap.size w w' := by
 have hu36 := Try.underlying36
 have HR0_1 := Aside0.mk hr0_1
 have HC0_1 := Aside0.mk hc0_1
 clear hr0_1 hc0_1
 have HR1_1 := Aside0.mk hr1_1
 have HC1_1 := Aside0.mk hc1_1
 clear hr1_1 hc1_1
 have HB := Aside0.mk (Below.refl w.heap.size w)
 have c3s : (a1_0 == a0_0) = false := by cases a0_0 <;> cases a1_0 <;> simp_all
 have c3t : decide (a1_0 = a0_0) = false := by cases a0_0 <;> cases a1_0 <;> simp_all
 have c3b0 : (a0_0 == a1_0) = false := by simpa using c3
 (try (have c3b1 : decide (a0_0 = a1_0) = false := by simpa using c3))
 (try (have c3b2 : (a0_0 == a1_0) = false := by simpa using c3))
 (try (have c3b3 : ¬ (a0_0 = a1_0) := by simpa using c3))
 clear c3
 have H' := Aside0.mk H
 clear H
 go_enter Try.func46, Try.ntmps46
 go_wp2_with (first | ((with_reducible refine gate_dst (N := 2) rfl ?_); (try (refine gate_guard (by rfl) ?_; dsimp only)); refine box_event ?hg (N := 2) ?hd (cs := #[.bool a0_0, .slice A0_1 l0_1.length c0_1]) (t := 36) ?hr ?_; (case hd => rfl); (case hg => rfl); (case hr => first | (go_simp; done) | (go_simp; rfl)); intro gb361 hg w71 hbox hb; have BK361 := Aside0.mk (hbox); have GW361 := Aside0.mk (ge (w := w) hg); have GE361 := Aside0.mk (ge (w := w) hg); replace HB := Aside0.mk (below_step bl hb); clear hb hbox hg) | ((with_reducible refine gate_dst (N := 3) rfl ?_); (try (refine gate_guard (by rfl) ?_; dsimp only)); refine box_event ?hg (N := 3) ?hd (cs := #[.bool a1_0, .slice A1_1 l1_1.length c1_1]) (t := 36) ?hr ?_; (case hd => rfl); (case hg => rfl); (case hr => first | (go_simp; done) | (go_simp; rfl)); intro gb362 hg w72 hbox hb; have BK362 := Aside0.mk (hbox); have GW362 := Aside0.mk (ge (w := w) hg); have GE362 := Aside0.mk (ge (w := w) hg); replace HB := Aside0.mk (below_step bl hb); have NB361_362 := Aside0.mk (nl hg (bk BK361.out)); have NB362_361 := Aside0.mk (ng hg (bk BK361.out)); replace BK361 := Aside0.mk (bb BK361.out hb); clear hb hbox hg) | ((with_reducible refine gate_dst (N := 4) rfl ?_); (try (refine gate_guard (by rfl) ?_; dsimp only)); refine box_event ?hg (N := 4) ?hd (cs := #[.bool false, .slice none 0 0]) (t := 36) ?hr ?_; (case hd => rfl); (case hg => rfl); (case hr => first | (go_simp; done) | (go_simp; rfl)); intro gb363 hg w73 hbox hb; have BK363 := Aside0.mk (hbox); have GW363 := Aside0.mk (ge (w := w) hg); have GE363 := Aside0.mk (ge (w := w) hg); replace HB := Aside0.mk (below_step bl hb); have NB361_363 := Aside0.mk (nl hg (bk BK361.out)); have NB363_361 := Aside0.mk (ng hg (bk BK361.out)); replace BK361 := Aside0.mk (bb BK361.out hb); have NB362_363 := Aside0.mk (nl hg (bk BK362.out)); have NB363_362 := Aside0.mk (ng hg (bk BK362.out)); replace BK362 := Aside0.mk (bb BK362.out hb); clear hb hbox hg; have hnb74 := NB361_362.out; have hnc74 := NB362_361.out; have hnb75 := NB361_363.out; have hnc75 := NB363_361.out; obtain ⟨hcz76_0, hcz76_1, hfz76_0, hfz76_1⟩ := bz2 BK361.out; have hnb77 := NB362_363.out; have hnc77 := NB363_362.out; obtain ⟨hcz78_0, hcz78_1, hfz78_0, hfz78_1⟩ := bz2 BK362.out))
 have q0 : w73.cell? ⟨gb361, 0, none⟩ = some (.bool a0_0) := (blk_cell BK361.out 0).trans rfl
 have q1 : w73.cell? ⟨gb361, 1, none⟩ = some (.slice A0_1 l0_1.length c0_1) := (blk_cell BK361.out 1).trans rfl
 have q2 : w73.cell? ⟨gb362, 0, none⟩ = some (.bool a1_0) := (blk_cell BK362.out 0).trans rfl
 have q3 : w73.cell? ⟨gb362, 1, none⟩ = some (.slice A1_1 l1_1.length c1_1) := (blk_cell BK362.out 1).trans rfl
 go_wp2_with fail
 refine (maskref4_less.calls k A0_1 c0_1 l0_1 A1_1 c1_1 l1_1 false _ (Kd.C_below HR0_1.out HB.out) HC0_1.out (Kd.C_below HR1_1.out HB.out) HC1_1.out hl).mono ?_
 rintro e wl ⟨rfl, hwd⟩
 have hw := hwd.below
 clear hwd
 clear q0 q1 q2 q3
 replace BK361 := Aside0.mk (blk_below BK361.out hw)
 replace BK362 := Aside0.mk (blk_below BK362.out hw)
 replace BK363 := Aside0.mk (blk_below BK363.out hw)
 replace HB := Aside0.mk (below_step HB.out hw)
 clear hw
 go_upto_region 16 with (fail)
 have q1 : wl.cell? ⟨gb361, 1, none⟩ = some (.slice A0_1 l0_1.length c0_1) := (blk_cell BK361.out 1).trans rfl
 go_wp2_with fail
 clear q1
 go_loopg [8, 9, 80] k (fun kq v8 v9 v80 w' => ∃ (x8_1 : List Int) (x9_1 : Int) (x80_1 : Int), v9 = .int .i64 x9_1 ∧ v80 = .int .i64 x80_1 ∧ Aside0 (plusP.l1 kq x8_1 x9_1 l0_1 (l0_1.length : Int) x80_1 a0_0 l0_1 a1_0 l1_1 = some (r1, r2)) ∧ Aside0 (kq ≤ k) ∧ Aside0 (Kd.R (Kd.int .i64) 3 w' w.heap.size (fun k_ => (w.heap.size ≤ k_)) v8 x8_1) ∧ Aside0 (w'.heap[gb361]? = some (.cells #[.bool a0_0, (.slice A0_1 l0_1.length c0_1)] 36 (0, 0))) ∧ Aside0 (w'.heap[gb362]? = some (.cells #[.bool a1_0, (.slice A1_1 l1_1.length c1_1)] 36 (0, 0))) ∧ Aside0 (w'.heap[gb363]? = some (.cells #[.bool false, (.slice none 0 0)] 36 (0, 0))) ∧ Aside0 (Below w.heap.size w w'))
 case atStart => exact ⟨(([] : List Int)), (0), (0), (by first | rfl | (simp; done) | (simp [*]; done)), (by first | rfl | (simp; done) | (simp [*]; done)), H', ⟨Nat.le_refl _⟩, ⟨by first | exact Kd.R_nil _ _ _ _ _ | exact Kd.N_nil _ _ _ _ _ | exact Kd.V_nil _ _ _ _ _ | exact Kd.Q_nil _ _ _ _ _ | exact Kd.S_nil _ _ _ _ _⟩, ⟨bk BK361.out⟩, ⟨bk BK362.out⟩, ⟨bk BK363.out⟩, ⟨bl⟩⟩
 clear H'
 clear c3b0 c3b1 c3b2 hcz76_0 hcz76_1 hcz78_0 hcz78_1 hfz76_0 hfz76_1 hfz78_0 hfz78_1
 obtain ⟨x8_1, x9_1, x80_1, rfl, rfl, HA, HK1, HO_8, BK361, BK362, BK363, HB⟩ := hrel
 cases gk with
 | zero => exact absurd HA.out (by simp [plusP.l1])
 | succ k1 =>
  have H := HA.out
  clear HA
  simp only [plusP.l1] at H
  by_cases c79 : x80_1 < (l0_1.length : Int)
  rotate_left
  · rw [if_neg c79] at H
    have c79b0 : decide (x80_1 < (l0_1.length : Int)) = false := decide_eq_false c79
    clear c79
    replace H := Option.bind_eq_some_iff.mp H
    obtain ⟨⟨t383, t384⟩, A1050, H⟩ := H
    replace H : (some (t383, t384)) = some (r1, r2) := H
    have A105 := Aside0.mk A1050
    clear A1050
    simp only [Option.some.injEq, Prod.mk.injEq] at H
    obtain ⟨rfl, rfl⟩ := H
    have hnb106 := NB361_362.out
    have hnc106 := NB362_361.out
    have hnb107 := NB361_363.out
    have hnc107 := NB363_361.out
    obtain ⟨hcz108_0, hcz108_1, hfz108_0, hfz108_1⟩ := bz2 BK361.out
    obtain ⟨Ao109, co109, eo109⟩ := Kd.R_slice HO_8.out
    subst eo109
    go_wp2_with ((with_reducible refine gate_callee (f := 66) rfl ?_); refine goesL_ (some 112) rfl rfl Try.func66 (by kernel_rfl) rfl #[.bool a0_0, .slice Ao109 x8_1.length co109] rfl (by (try simp only [List.map_toArray, List.map_cons, List.map_nil]); first | done | rfl | (simp only [List.length_drop, List.length_take]; rfl)) ?_; (with_reducible refine (maskref4_trim.calls a0_0 (fun k_ => some k_ = (.slice Ao109 x8_1.length co109 : Value).ownBlock) _ _ x8_1 t383 t384 _ ?side1 A105.out).mono ?_); (case side1 => exact Kd.R_V (Kd.R_tight rfl (Kd.R_types (Kd.R_types (Kd.R_types (HO_8.out) BK361.out (by decide)) BK362.out (by decide)) BK363.out (by decide)))); rintro e w110 ⟨v385, rfl, ho0, hb⟩; refine ⟨_, rfl, ?_⟩; have HO386 := Aside0.mk (Kd.V_lower (Kd.V_mono (ok' := fun k_ => (w.heap.size ≤ k_) ∧ k_ ≠ gb361 ∧ k_ ≠ gb362 ∧ k_ ≠ gb363) ho0 (fun k_ hk_ => ⟨Or.elim hk_ (fun hs_ => ((Kd.R_types (Kd.R_types (Kd.R_types (HO_8.out) BK361.out (by decide)) BK362.out (by decide)) BK363.out (by decide)).1 k_ hs_.symm).1.1.1) (fun hn_ => (Nat.le_trans (below_size bl) hn_)), Or.elim hk_ (fun hs_ => ((Kd.R_types (Kd.R_types (Kd.R_types (HO_8.out) BK361.out (by decide)) BK362.out (by decide)) BK363.out (by decide)).1 k_ hs_.symm).1.1.2) (fun hn_ => (Kd.freshB (g := gb361) (o := .cells #[.bool a0_0, .slice A0_1 l0_1.length c0_1] 36 (0, 0)) (bk BK361.out) k_ hn_)), Or.elim hk_ (fun hs_ => ((Kd.R_types (Kd.R_types (Kd.R_types (HO_8.out) BK361.out (by decide)) BK362.out (by decide)) BK363.out (by decide)).1 k_ hs_.symm).1.2) (fun hn_ => (Kd.freshB (g := gb362) (o := .cells #[.bool a1_0, .slice A1_1 l1_1.length c1_1] 36 (0, 0)) (bk BK362.out) k_ hn_)), Or.elim hk_ (fun hs_ => ((Kd.R_types (Kd.R_types (Kd.R_types (HO_8.out) BK361.out (by decide)) BK362.out (by decide)) BK363.out (by decide)).1 k_ hs_.symm).2) (fun hn_ => (Kd.freshB (g := gb363) (o := .cells #[.bool false, .slice none 0 0] 36 (0, 0)) (bk BK363.out) k_ hn_))⟩)) (below_size bl)); replace HO_8 := Aside0.mk (rb HO_8.out hb); replace BK361 := Aside0.mk (bb BK361.out hb); replace BK362 := Aside0.mk (bb BK362.out hb); replace BK363 := Aside0.mk (bb BK363.out hb); replace HB := Aside0.mk (below_step bl hb); (try clear hb); (try clear ho0); have hnb111 := NB363_362.out; have hnc111 := NB362_363.out; obtain ⟨hcz112_0, hcz112_1, hfz112_0, hfz112_1⟩ := bz2 BK363.out; obtain ⟨Ao113, co113, eo113⟩ := Kd.V_slice HO386.out; subst eo113)
    refine bodyPost_ret (results_cell_row rfl _ _ gb363 36 #[.bool t383, .slice Ao113 t384.length co113] (0, 0) _ rfl (by (with_reducible repeat (first | refine blk_drewN ?_ _ | refine blk_drew ?_ | refine blk_alloc ?_ _)); refine blk_put (cs := #[.bool t383, .slice none 0 0]) ?_ 1 _ rfl; (with_reducible repeat (first | refine blk_drewN ?_ _ | refine blk_drew ?_ | refine blk_alloc ?_ _)); refine blk_put (cs := #[.bool false, .slice none 0 0]) ?_ 0 _ rfl; (with_reducible repeat (first | refine blk_drewN ?_ _ | refine blk_drew ?_ | refine blk_alloc ?_ _)); exact BK363.out) Try.underlying36 rfl (by kernel_rfl)) rfl ?_
    exact ⟨_, by first | rfl | (simp [errW_none, errW_some] <;> rfl) | (simp [*, errW_none, errW_some] <;> rfl), by (with_reducible repeat (first | apply Kd.V_alloc | apply Kd.V_drewN | apply Kd.V_drew)); exact Kd.V_mono (Kd.V_far (p := ⟨gb363, 1, none⟩) (Kd.V_far (p := ⟨gb363, 0, none⟩) (Kd.V_mono HO386.out (fun k_ hk => (⟨hk, hk.2.2.2⟩ : _ ∧ k_ ≠ gb363))) (fun _ hk => hk.2) (.bool t383)) (fun _ hk => hk.2) (.slice Ao113 t384.length co113)) (fun _ hk => hk.1.1), bl⟩
  rw [if_pos c79] at H
  have c79b0 : decide (x80_1 < (l0_1.length : Int)) = true := decide_eq_true c79
  clear c79
  by_cases c80 : 0 ≤ x80_1
  rotate_left
  · rw [if_neg c80] at H
    exact absurd H (by simp)
  rw [if_pos c80] at H
  have c80b0 : decide (0 ≤ x80_1) = true := decide_eq_true c80
  clear c80
  by_cases c81 : x80_1 < (l0_1.length : Int)
  rotate_left
  · rw [if_neg c81] at H
    exact absurd H (by simp)
  rw [if_pos c81] at H
  have c81b0 : decide (x80_1 < (l0_1.length : Int)) = true := decide_eq_true c81
  clear c81
  by_cases c82 : x80_1 < (l1_1.length : Int)
  rotate_left
  · rw [if_neg c82] at H
    have c82b0 : decide (x80_1 < (l1_1.length : Int)) = false := decide_eq_false c82
    clear c82
    by_cases c94 : (wrap64 ((rd l0_1 x80_1) - x9_1)) < 0
    · rw [if_pos c94] at H
      have c94b0 : decide ((wrap64 ((rd l0_1 x80_1) - x9_1)) < 0) = true := decide_eq_true c94
      clear c94
      by_cases c95 : x8_1.length < 17592186044416
      rotate_left
      · rw [if_neg c95] at H
        exact absurd H (by simp)
      rw [if_pos c95] at H
      have LMc95 := Aside0.mk c95
      clear c95
      obtain ⟨y395, hy395⟩ : ∃ y_ : List Int, y_ = (x8_1 ++ [wrap64 ((wrap64 ((rd l0_1 x80_1) - x9_1)) + 10)]) := ⟨_, rfl⟩
      replace H : (plusP.l1 k1 y395 1 l0_1 (l0_1.length : Int) (wrap64 (x80_1 + 1)) a0_0 l0_1 a1_0 l1_1) = some (r1, r2) := by first | (rw [hy395]; with_reducible exact H) | (have H2_ := (Option.bind_some _ _).symm.trans H; rw [hy395]; with_reducible exact H2_) | (have H2_ := (Option.bind_some _ _).symm.trans H; with_reducible exact H2_) | with_reducible exact H | (rw [hy395]; exact H) | exact H
      have Ny395 := Aside0.mk hy395
      clear hy395
      have H' := Aside0.mk H
      clear H
      have p387 : 0 ≤ (x80_1 : Int) := of_decide_eq_true (by first | (with_reducible assumption) | assumption)
      have q387 : x80_1 < (l0_1.length : Int) := of_decide_eq_true (by first | (with_reducible assumption) | assumption)
      obtain ⟨ad387, e387, hx387_0⟩ := Kd.at_int HR0_1.out x80_1 p387 q387
      cases e387
      replace hx387_0 := hc HB.out hx387_0
      replace p387 := eq_true p387
      replace q387 := eq_true q387
      have hnb96 := NB362_361.out
      have hnc96 := NB361_362.out
      have hnb97 := NB362_363.out
      have hnc97 := NB363_362.out
      obtain ⟨hcz98_0, hcz98_1, hfz98_0, hfz98_1⟩ := bz2 BK362.out
      go_wp2_with ((with_reducible refine gate_builtin (b := .append) (xs := #[.tmp 104, .tmp 106]) rfl ?_); (try (refine gate_guard (by rfl) ?_; dsimp only)); at_builtin; refine Kd.R_append (Kd.int .i64) (w0 := w) w.heap.size rfl (.tmp 104) (.tmp 106) 34 3 (.int .i64 0) 8 rfl Try.underlying34 info3 rfl (by decide) (by omega) u8 x8_1 (wrap64 ((wrap64 ((rd l0_1 x80_1) - x9_1)) + 10)) [.int .i64 (wrap64 ((wrap64 ((rd l0_1 x80_1) - x9_1)) + 10))] (fun k_ => (w.heap.size ≤ k_)) (fun _ => False) rfl rfl ?aP (fun _ hk => hk.elim) ?aF ?aO ?aB ?aS ?aL ?_; (case aP => exact rfl); (case aB => exact bl); (case aF => exact (fun k_ hk => (Nat.le_trans (below_size bl) hk))); (case aO => exact (by (with_reducible repeat (first | apply Kd.R_alloc | apply Kd.R_drewN | apply Kd.R_drew)); exact HO_8.out)); (case aS => exact (below_size bl)); (case aL => have := LMc95.out; omega); intro v396 w99 ho hb hg hat; rw [← Ny395.out] at ho; replace BK361 := Aside0.mk (blk_grown (bk BK361.out) hg (Kd.R_ne HO_8.out BK361.out (by decide))); replace BK362 := Aside0.mk (blk_grown (bk BK362.out) hg (Kd.R_ne HO_8.out BK362.out (by decide))); replace BK363 := Aside0.mk (blk_grown (bk BK363.out) hg (Kd.R_ne HO_8.out BK363.out (by decide))); replace HB := Aside0.mk (hb); have HO397 := Aside0.mk (ho); clear HO_8; clear ho hb hg hat)
      go_roundg k1
      case measure => have := HK1.out; omega
      case rel => exact ⟨(y395), (1), (wrap64 (x80_1 + 1)), (by first | rfl | (simp; done) | (simp [*]; done)), (by first | rfl | (simp; done) | (simp [*]; done)), H', ⟨by have := HK1.out; omega⟩, ⟨by (with_reducible repeat (first | apply Kd.R_alloc | apply Kd.R_drewN | apply Kd.R_drew)); exact HO397.out⟩, ⟨bk BK361.out⟩, ⟨bk BK362.out⟩, ⟨bk BK363.out⟩, ⟨bl⟩⟩
    rw [if_neg c94] at H
    have c94b0 : decide ((wrap64 ((rd l0_1 x80_1) - x9_1)) < 0) = false := decide_eq_false c94
    clear c94
    by_cases c100 : x8_1.length < 17592186044416
    rotate_left
    · rw [if_neg c100] at H
      exact absurd H (by simp)
    rw [if_pos c100] at H
    have LMc100 := Aside0.mk c100
    clear c100
    obtain ⟨y398, hy398⟩ : ∃ y_ : List Int, y_ = (x8_1 ++ [wrap64 ((rd l0_1 x80_1) - x9_1)]) := ⟨_, rfl⟩
    replace H : (plusP.l1 k1 y398 0 l0_1 (l0_1.length : Int) (wrap64 (x80_1 + 1)) a0_0 l0_1 a1_0 l1_1) = some (r1, r2) := by first | (rw [hy398]; with_reducible exact H) | (have H2_ := (Option.bind_some _ _).symm.trans H; rw [hy398]; with_reducible exact H2_) | (have H2_ := (Option.bind_some _ _).symm.trans H; with_reducible exact H2_) | with_reducible exact H | (rw [hy398]; exact H) | exact H
    have Ny398 := Aside0.mk hy398
    clear hy398
    have H' := Aside0.mk H
    clear H
    have p387 : 0 ≤ (x80_1 : Int) := of_decide_eq_true (by first | (with_reducible assumption) | assumption)
    have q387 : x80_1 < (l0_1.length : Int) := of_decide_eq_true (by first | (with_reducible assumption) | assumption)
    obtain ⟨ad387, e387, hx387_0⟩ := Kd.at_int HR0_1.out x80_1 p387 q387
    cases e387
    replace hx387_0 := hc HB.out hx387_0
    replace p387 := eq_true p387
    replace q387 := eq_true q387
    have hnb101 := NB362_361.out
    have hnc101 := NB361_362.out
    have hnb102 := NB362_363.out
    have hnc102 := NB363_362.out
    obtain ⟨hcz103_0, hcz103_1, hfz103_0, hfz103_1⟩ := bz2 BK362.out
    go_wp2_with ((with_reducible refine gate_builtin (b := .append) (xs := #[.tmp 104, .tmp 106]) rfl ?_); (try (refine gate_guard (by rfl) ?_; dsimp only)); at_builtin; refine Kd.R_append (Kd.int .i64) (w0 := w) w.heap.size rfl (.tmp 104) (.tmp 106) 34 3 (.int .i64 0) 8 rfl Try.underlying34 info3 rfl (by decide) (by omega) u8 x8_1 (wrap64 ((rd l0_1 x80_1) - x9_1)) [.int .i64 (wrap64 ((rd l0_1 x80_1) - x9_1))] (fun k_ => (w.heap.size ≤ k_)) (fun _ => False) rfl rfl ?aP (fun _ hk => hk.elim) ?aF ?aO ?aB ?aS ?aL ?_; (case aP => exact rfl); (case aB => exact bl); (case aF => exact (fun k_ hk => (Nat.le_trans (below_size bl) hk))); (case aO => exact (by (with_reducible repeat (first | apply Kd.R_alloc | apply Kd.R_drewN | apply Kd.R_drew)); exact HO_8.out)); (case aS => exact (below_size bl)); (case aL => have := LMc100.out; omega); intro v399 w104 ho hb hg hat; rw [← Ny398.out] at ho; replace BK361 := Aside0.mk (blk_grown (bk BK361.out) hg (Kd.R_ne HO_8.out BK361.out (by decide))); replace BK362 := Aside0.mk (blk_grown (bk BK362.out) hg (Kd.R_ne HO_8.out BK362.out (by decide))); replace BK363 := Aside0.mk (blk_grown (bk BK363.out) hg (Kd.R_ne HO_8.out BK363.out (by decide))); replace HB := Aside0.mk (hb); have HO400 := Aside0.mk (ho); clear HO_8; clear ho hb hg hat)
    go_roundg k1
    case measure => have := HK1.out; omega
    case rel => exact ⟨(y398), (0), (wrap64 (x80_1 + 1)), (by first | rfl | (simp; done) | (simp [*]; done)), (by first | rfl | (simp; done) | (simp [*]; done)), H', ⟨by have := HK1.out; omega⟩, ⟨by (with_reducible repeat (first | apply Kd.R_alloc | apply Kd.R_drewN | apply Kd.R_drew)); exact HO400.out⟩, ⟨bk BK361.out⟩, ⟨bk BK362.out⟩, ⟨bk BK363.out⟩, ⟨bl⟩⟩
  rw [if_pos c82] at H
  have c82b0 : decide (x80_1 < (l1_1.length : Int)) = true := decide_eq_true c82
  clear c82
  by_cases c83 : (wrap64 ((wrap64 ((rd l0_1 x80_1) - x9_1)) - (rd l1_1 x80_1))) < 0
  · rw [if_pos c83] at H
    have c83b0 : decide ((wrap64 ((wrap64 ((rd l0_1 x80_1) - x9_1)) - (rd l1_1 x80_1))) < 0) = true := decide_eq_true c83
    clear c83
    by_cases c84 : x8_1.length < 17592186044416
    rotate_left
    · rw [if_neg c84] at H
      exact absurd H (by simp)
    rw [if_pos c84] at H
    have LMc84 := Aside0.mk c84
    clear c84
    obtain ⟨y389, hy389⟩ : ∃ y_ : List Int, y_ = (x8_1 ++ [wrap64 ((wrap64 ((wrap64 ((rd l0_1 x80_1) - x9_1)) - (rd l1_1 x80_1))) + 10)]) := ⟨_, rfl⟩
    replace H : (plusP.l1 k1 y389 1 l0_1 (l0_1.length : Int) (wrap64 (x80_1 + 1)) a0_0 l0_1 a1_0 l1_1) = some (r1, r2) := by first | (rw [hy389]; with_reducible exact H) | (have H2_ := (Option.bind_some _ _).symm.trans H; rw [hy389]; with_reducible exact H2_) | (have H2_ := (Option.bind_some _ _).symm.trans H; with_reducible exact H2_) | with_reducible exact H | (rw [hy389]; exact H) | exact H
    have Ny389 := Aside0.mk hy389
    clear hy389
    have H' := Aside0.mk H
    clear H
    have p387 : 0 ≤ (x80_1 : Int) := of_decide_eq_true (by first | (with_reducible assumption) | assumption)
    have q387 : x80_1 < (l0_1.length : Int) := of_decide_eq_true (by first | (with_reducible assumption) | assumption)
    obtain ⟨ad387, e387, hx387_0⟩ := Kd.at_int HR0_1.out x80_1 p387 q387
    cases e387
    replace hx387_0 := hc HB.out hx387_0
    replace p387 := eq_true p387
    replace q387 := eq_true q387
    have hnb85 := NB362_361.out
    have hnc85 := NB361_362.out
    have hnb86 := NB362_363.out
    have hnc86 := NB363_362.out
    obtain ⟨hcz87_0, hcz87_1, hfz87_0, hfz87_1⟩ := bz2 BK362.out
    have p388 : 0 ≤ (x80_1 : Int) := of_decide_eq_true (by first | (with_reducible assumption) | assumption)
    have q388 : x80_1 < (l1_1.length : Int) := of_decide_eq_true (by first | (with_reducible assumption) | assumption)
    obtain ⟨ad388, e388, hx388_0⟩ := Kd.at_int HR1_1.out x80_1 p388 q388
    cases e388
    replace hx388_0 := hc HB.out hx388_0
    replace p388 := eq_true p388
    replace q388 := eq_true q388
    go_wp2_with ((with_reducible refine gate_builtin (b := .append) (xs := #[.tmp 104, .tmp 106]) rfl ?_); (try (refine gate_guard (by rfl) ?_; dsimp only)); at_builtin; refine Kd.R_append (Kd.int .i64) (w0 := w) w.heap.size rfl (.tmp 104) (.tmp 106) 34 3 (.int .i64 0) 8 rfl Try.underlying34 info3 rfl (by decide) (by omega) u8 x8_1 (wrap64 ((wrap64 ((wrap64 ((rd l0_1 x80_1) - x9_1)) - (rd l1_1 x80_1))) + 10)) [.int .i64 (wrap64 ((wrap64 ((wrap64 ((rd l0_1 x80_1) - x9_1)) - (rd l1_1 x80_1))) + 10))] (fun k_ => (w.heap.size ≤ k_)) (fun _ => False) rfl rfl ?aP (fun _ hk => hk.elim) ?aF ?aO ?aB ?aS ?aL ?_; (case aP => exact rfl); (case aB => exact bl); (case aF => exact (fun k_ hk => (Nat.le_trans (below_size bl) hk))); (case aO => exact (by (with_reducible repeat (first | apply Kd.R_alloc | apply Kd.R_drewN | apply Kd.R_drew)); exact HO_8.out)); (case aS => exact (below_size bl)); (case aL => have := LMc84.out; omega); intro v390 w88 ho hb hg hat; rw [← Ny389.out] at ho; replace BK361 := Aside0.mk (blk_grown (bk BK361.out) hg (Kd.R_ne HO_8.out BK361.out (by decide))); replace BK362 := Aside0.mk (blk_grown (bk BK362.out) hg (Kd.R_ne HO_8.out BK362.out (by decide))); replace BK363 := Aside0.mk (blk_grown (bk BK363.out) hg (Kd.R_ne HO_8.out BK363.out (by decide))); replace HB := Aside0.mk (hb); have HO391 := Aside0.mk (ho); clear HO_8; clear ho hb hg hat)
    go_roundg k1
    case measure => have := HK1.out; omega
    case rel => exact ⟨(y389), (1), (wrap64 (x80_1 + 1)), (by first | rfl | (simp; done) | (simp [*]; done)), (by first | rfl | (simp; done) | (simp [*]; done)), H', ⟨by have := HK1.out; omega⟩, ⟨by (with_reducible repeat (first | apply Kd.R_alloc | apply Kd.R_drewN | apply Kd.R_drew)); exact HO391.out⟩, ⟨bk BK361.out⟩, ⟨bk BK362.out⟩, ⟨bk BK363.out⟩, ⟨bl⟩⟩
  rw [if_neg c83] at H
  have c83b0 : decide ((wrap64 ((wrap64 ((rd l0_1 x80_1) - x9_1)) - (rd l1_1 x80_1))) < 0) = false := decide_eq_false c83
  clear c83
  by_cases c89 : x8_1.length < 17592186044416
  rotate_left
  · rw [if_neg c89] at H
    exact absurd H (by simp)
  rw [if_pos c89] at H
  have LMc89 := Aside0.mk c89
  clear c89
  obtain ⟨y392, hy392⟩ : ∃ y_ : List Int, y_ = (x8_1 ++ [wrap64 ((wrap64 ((rd l0_1 x80_1) - x9_1)) - (rd l1_1 x80_1))]) := ⟨_, rfl⟩
  replace H : (plusP.l1 k1 y392 0 l0_1 (l0_1.length : Int) (wrap64 (x80_1 + 1)) a0_0 l0_1 a1_0 l1_1) = some (r1, r2) := by first | (rw [hy392]; with_reducible exact H) | (have H2_ := (Option.bind_some _ _).symm.trans H; rw [hy392]; with_reducible exact H2_) | (have H2_ := (Option.bind_some _ _).symm.trans H; with_reducible exact H2_) | with_reducible exact H | (rw [hy392]; exact H) | exact H
  have Ny392 := Aside0.mk hy392
  clear hy392
  have H' := Aside0.mk H
  clear H
  have p387 : 0 ≤ (x80_1 : Int) := of_decide_eq_true (by first | (with_reducible assumption) | assumption)
  have q387 : x80_1 < (l0_1.length : Int) := of_decide_eq_true (by first | (with_reducible assumption) | assumption)
  obtain ⟨ad387, e387, hx387_0⟩ := Kd.at_int HR0_1.out x80_1 p387 q387
  cases e387
  replace hx387_0 := hc HB.out hx387_0
  replace p387 := eq_true p387
  replace q387 := eq_true q387
  have hnb90 := NB362_361.out
  have hnc90 := NB361_362.out
  have hnb91 := NB362_363.out
  have hnc91 := NB363_362.out
  obtain ⟨hcz92_0, hcz92_1, hfz92_0, hfz92_1⟩ := bz2 BK362.out
  have p388 : 0 ≤ (x80_1 : Int) := of_decide_eq_true (by first | (with_reducible assumption) | assumption)
  have q388 : x80_1 < (l1_1.length : Int) := of_decide_eq_true (by first | (with_reducible assumption) | assumption)
  obtain ⟨ad388, e388, hx388_0⟩ := Kd.at_int HR1_1.out x80_1 p388 q388
  cases e388
  replace hx388_0 := hc HB.out hx388_0
  replace p388 := eq_true p388
  replace q388 := eq_true q388
  go_wp2_with ((with_reducible refine gate_builtin (b := .append) (xs := #[.tmp 104, .tmp 106]) rfl ?_); (try (refine gate_guard (by rfl) ?_; dsimp only)); at_builtin; refine Kd.R_append (Kd.int .i64) (w0 := w) w.heap.size rfl (.tmp 104) (.tmp 106) 34 3 (.int .i64 0) 8 rfl Try.underlying34 info3 rfl (by decide) (by omega) u8 x8_1 (wrap64 ((wrap64 ((rd l0_1 x80_1) - x9_1)) - (rd l1_1 x80_1))) [.int .i64 (wrap64 ((wrap64 ((rd l0_1 x80_1) - x9_1)) - (rd l1_1 x80_1)))] (fun k_ => (w.heap.size ≤ k_)) (fun _ => False) rfl rfl ?aP (fun _ hk => hk.elim) ?aF ?aO ?aB ?aS ?aL ?_; (case aP => exact rfl); (case aB => exact bl); (case aF => exact (fun k_ hk => (Nat.le_trans (below_size bl) hk))); (case aO => exact (by (with_reducible repeat (first | apply Kd.R_alloc | apply Kd.R_drewN | apply Kd.R_drew)); exact HO_8.out)); (case aS => exact (below_size bl)); (case aL => have := LMc89.out; omega); intro v393 w93 ho hb hg hat; rw [← Ny392.out] at ho; replace BK361 := Aside0.mk (blk_grown (bk BK361.out) hg (Kd.R_ne HO_8.out BK361.out (by decide))); replace BK362 := Aside0.mk (blk_grown (bk BK362.out) hg (Kd.R_ne HO_8.out BK362.out (by decide))); replace BK363 := Aside0.mk (blk_grown (bk BK363.out) hg (Kd.R_ne HO_8.out BK363.out (by decide))); replace HB := Aside0.mk (hb); have HO394 := Aside0.mk (ho); clear HO_8; clear ho hb hg hat)
  go_roundg k1
  case measure => have := HK1.out; omega
  case rel => exact ⟨(y392), (0), (wrap64 (x80_1 + 1)), (by first | rfl | (simp; done) | (simp [*]; done)), (by first | rfl | (simp; done) | (simp [*]; done)), H', ⟨by have := HK1.out; omega⟩, ⟨by (with_reducible repeat (first | apply Kd.R_alloc | apply Kd.R_drewN | apply Kd.R_drew)); exact HO394.out⟩, ⟨bk BK361.out⟩, ⟨bk BK362.out⟩, ⟨bk BK363.out⟩, ⟨bl⟩⟩
set_option maxHeartbeats 8000000 in
set_option maxRecDepth 100000 in
theorem plusP.diffB (k : Nat) (a0_0 : Bool) (A0_1 : Option Addr) (c0_1 : Nat) (l0_1 : List Int) (a1_0 : Bool) (A1_1 : Option Addr) (c1_1 : Nat) (l1_1 : List Int) (r1 : Bool) (r2 : List Int) (w : World) (hr0_1 : Kd.C (Kd.int .i64) w A0_1 l0_1.length l0_1) (hc0_1 : l0_1.length ≤ c0_1) (hr1_1 : Kd.C (Kd.int .i64) w A1_1 l1_1.length l1_1) (hc1_1 : l1_1.length ≤ c1_1) (c3 : ¬ (a0_0 == a1_0) = true) (hl : maskref4_less.f k l1_1 l0_1 = some true) (H : plusP.l1 k ([] : List Int) 0 l0_1 (l0_1.length : Int) 0 a0_0 l0_1 a1_0 l1_1 = some (r1, r2)) :
 Calls Try.prog 46 #[.agg #[.bool a1_0, .slice A1_1 l1_1.length c1_1], .agg #[.bool a0_0, .slice A0_1 l0_1.length c0_1]] w fun e w' => ∃ v1_ : Value, e = .returned (.agg #[.bool r1, v1_]) ∧ Kd.V (Kd.int .i64) 3 w' w.heap.size (fun k_ => (w.heap.size ≤ k_)) v1_ r2 ∧ Below w.heap.size w w' := by
 have hu36 := Try.underlying36
 have HR0_1 := Aside0.mk hr0_1
 have HC0_1 := Aside0.mk hc0_1
 clear hr0_1 hc0_1
 have HR1_1 := Aside0.mk hr1_1
 have HC1_1 := Aside0.mk hc1_1
 clear hr1_1 hc1_1
 have HB := Aside0.mk (Below.refl w.heap.size w)
 have c3s : (a1_0 == a0_0) = false := by cases a0_0 <;> cases a1_0 <;> simp_all
 have c3t : decide (a1_0 = a0_0) = false := by cases a0_0 <;> cases a1_0 <;> simp_all
 have c3b0 : (a0_0 == a1_0) = false := by simpa using c3
 (try (have c3b1 : decide (a0_0 = a1_0) = false := by simpa using c3))
 (try (have c3b2 : (a0_0 == a1_0) = false := by simpa using c3))
 (try (have c3b3 : ¬ (a0_0 = a1_0) := by simpa using c3))
 clear c3
 have H' := Aside0.mk H
 clear H
 go_enter Try.func46, Try.ntmps46
 go_wp2_with (first | ((with_reducible refine gate_dst (N := 2) rfl ?_); (try (refine gate_guard (by rfl) ?_; dsimp only)); refine box_event ?hg (N := 2) ?hd (cs := #[.bool a1_0, .slice A1_1 l1_1.length c1_1]) (t := 36) ?hr ?_; (case hd => rfl); (case hg => rfl); (case hr => first | (go_simp; done) | (go_simp; rfl)); intro gb361 hg w71 hbox hb; have BK361 := Aside0.mk (hbox); have GW361 := Aside0.mk (ge (w := w) hg); have GE361 := Aside0.mk (ge (w := w) hg); replace HB := Aside0.mk (below_step bl hb); clear hb hbox hg) | ((with_reducible refine gate_dst (N := 3) rfl ?_); (try (refine gate_guard (by rfl) ?_; dsimp only)); refine box_event ?hg (N := 3) ?hd (cs := #[.bool a0_0, .slice A0_1 l0_1.length c0_1]) (t := 36) ?hr ?_; (case hd => rfl); (case hg => rfl); (case hr => first | (go_simp; done) | (go_simp; rfl)); intro gb362 hg w72 hbox hb; have BK362 := Aside0.mk (hbox); have GW362 := Aside0.mk (ge (w := w) hg); have GE362 := Aside0.mk (ge (w := w) hg); replace HB := Aside0.mk (below_step bl hb); have NB361_362 := Aside0.mk (nl hg (bk BK361.out)); have NB362_361 := Aside0.mk (ng hg (bk BK361.out)); replace BK361 := Aside0.mk (bb BK361.out hb); clear hb hbox hg) | ((with_reducible refine gate_dst (N := 4) rfl ?_); (try (refine gate_guard (by rfl) ?_; dsimp only)); refine box_event ?hg (N := 4) ?hd (cs := #[.bool false, .slice none 0 0]) (t := 36) ?hr ?_; (case hd => rfl); (case hg => rfl); (case hr => first | (go_simp; done) | (go_simp; rfl)); intro gb363 hg w73 hbox hb; have BK363 := Aside0.mk (hbox); have GW363 := Aside0.mk (ge (w := w) hg); have GE363 := Aside0.mk (ge (w := w) hg); replace HB := Aside0.mk (below_step bl hb); have NB361_363 := Aside0.mk (nl hg (bk BK361.out)); have NB363_361 := Aside0.mk (ng hg (bk BK361.out)); replace BK361 := Aside0.mk (bb BK361.out hb); have NB362_363 := Aside0.mk (nl hg (bk BK362.out)); have NB363_362 := Aside0.mk (ng hg (bk BK362.out)); replace BK362 := Aside0.mk (bb BK362.out hb); clear hb hbox hg; have hnb74 := NB361_362.out; have hnc74 := NB362_361.out; have hnb75 := NB361_363.out; have hnc75 := NB363_361.out; obtain ⟨hcz76_0, hcz76_1, hfz76_0, hfz76_1⟩ := bz2 BK361.out; have hnb77 := NB362_363.out; have hnc77 := NB363_362.out; obtain ⟨hcz78_0, hcz78_1, hfz78_0, hfz78_1⟩ := bz2 BK362.out))
 have q0 : w73.cell? ⟨gb361, 0, none⟩ = some (.bool a1_0) := (blk_cell BK361.out 0).trans rfl
 have q1 : w73.cell? ⟨gb361, 1, none⟩ = some (.slice A1_1 l1_1.length c1_1) := (blk_cell BK361.out 1).trans rfl
 have q2 : w73.cell? ⟨gb362, 0, none⟩ = some (.bool a0_0) := (blk_cell BK362.out 0).trans rfl
 have q3 : w73.cell? ⟨gb362, 1, none⟩ = some (.slice A0_1 l0_1.length c0_1) := (blk_cell BK362.out 1).trans rfl
 go_wp2_with fail
 refine (maskref4_less.calls k A1_1 c1_1 l1_1 A0_1 c0_1 l0_1 true _ (Kd.C_below HR1_1.out HB.out) HC1_1.out (Kd.C_below HR0_1.out HB.out) HC0_1.out hl).mono ?_
 rintro e wl ⟨rfl, hwd⟩
 have hw := hwd.below
 clear hwd
 clear q0 q1 q2 q3
 replace BK361 := Aside0.mk (blk_below BK361.out hw)
 replace BK362 := Aside0.mk (blk_below BK362.out hw)
 replace BK363 := Aside0.mk (blk_below BK363.out hw)
 replace HB := Aside0.mk (below_step HB.out hw)
 clear hw
 have q0 : wl.cell? ⟨gb361, 0, none⟩ = some (.bool a1_0) := (blk_cell BK361.out 0).trans rfl
 have q1 : wl.cell? ⟨gb361, 1, none⟩ = some (.slice A1_1 l1_1.length c1_1) := (blk_cell BK361.out 1).trans rfl
 have q2 : wl.cell? ⟨gb362, 0, none⟩ = some (.bool a0_0) := (blk_cell BK362.out 0).trans rfl
 have q3 : wl.cell? ⟨gb362, 1, none⟩ = some (.slice A0_1 l0_1.length c0_1) := (blk_cell BK362.out 1).trans rfl
 have y0 := blk_frozen BK361.out 0
 have y1 := blk_frozen BK361.out 1
 have y2 := blk_frozen BK362.out 0
 have y3 := blk_frozen BK362.out 1
 have ne1 : gb361 ≠ gb362 := NB361_362.out
 have ne2 : gb362 ≠ gb361 := NB362_361.out
 go_upto_region 16 with (fail)
 clear q0 q1 q2 q3 y0 y1 y2 y3 ne1 ne2
 replace HB := Aside0.mk (below_set (g := gb362) (j := 1) (v := .slice A1_1 l1_1.length c1_1) (below_set (g := gb362) (j := 0) (v := .bool a1_0) (below_set (g := gb361) (j := 1) (v := .slice A0_1 l0_1.length c0_1) (below_set (g := gb361) (j := 0) (v := .bool a0_0) HB.out GE361.out) GE361.out) GE362.out) GE362.out)
 replace BK361 := Aside0.mk (blk_far (blk_far (blk_put (cs := #[.bool a0_0, .slice A1_1 l1_1.length c1_1]) (cs' := #[.bool a0_0, .slice A0_1 l0_1.length c0_1]) (blk_put (cs := #[.bool a1_0, .slice A1_1 l1_1.length c1_1]) (cs' := #[.bool a0_0, .slice A1_1 l1_1.length c1_1]) BK361.out 0 _ rfl) 1 _ rfl) (p := ⟨gb362, 0, none⟩) NB361_362.out (.bool a1_0)) (p := ⟨gb362, 1, none⟩) NB361_362.out (.slice A1_1 l1_1.length c1_1))
 replace BK362 := Aside0.mk (blk_put (cs := #[.bool a1_0, .slice A0_1 l0_1.length c0_1]) (cs' := #[.bool a1_0, .slice A1_1 l1_1.length c1_1]) (blk_put (cs := #[.bool a0_0, .slice A0_1 l0_1.length c0_1]) (cs' := #[.bool a1_0, .slice A0_1 l0_1.length c0_1]) (blk_far (blk_far BK362.out (p := ⟨gb361, 0, none⟩) NB362_361.out (.bool a0_0)) (p := ⟨gb361, 1, none⟩) NB362_361.out (.slice A0_1 l0_1.length c0_1)) 0 _ rfl) 1 _ rfl)
 replace BK363 := Aside0.mk (blk_far (blk_far (blk_far (blk_far BK363.out (p := ⟨gb361, 0, none⟩) NB363_361.out (.bool a0_0)) (p := ⟨gb361, 1, none⟩) NB363_361.out (.slice A0_1 l0_1.length c0_1)) (p := ⟨gb362, 0, none⟩) NB363_362.out (.bool a1_0)) (p := ⟨gb362, 1, none⟩) NB363_362.out (.slice A1_1 l1_1.length c1_1))
 generalize (((wl.setCell ⟨gb361, 0, none⟩ (.bool a0_0)).setCell ⟨gb361, 1, none⟩ (.slice A0_1 l0_1.length c0_1)).setCell ⟨gb362, 0, none⟩ (.bool a1_0)).setCell ⟨gb362, 1, none⟩ (.slice A1_1 l1_1.length c1_1) = wm at *
 have q1 : wm.cell? ⟨gb361, 1, none⟩ = some (.slice A0_1 l0_1.length c0_1) := (blk_cell BK361.out 1).trans rfl
 go_wp2_with fail
 clear q1
 go_loopg [8, 9, 80] k (fun kq v8 v9 v80 w' => ∃ (x8_1 : List Int) (x9_1 : Int) (x80_1 : Int), v9 = .int .i64 x9_1 ∧ v80 = .int .i64 x80_1 ∧ Aside0 (plusP.l1 kq x8_1 x9_1 l0_1 (l0_1.length : Int) x80_1 a0_0 l0_1 a1_0 l1_1 = some (r1, r2)) ∧ Aside0 (kq ≤ k) ∧ Aside0 (Kd.R (Kd.int .i64) 3 w' w.heap.size (fun k_ => (w.heap.size ≤ k_)) v8 x8_1) ∧ Aside0 (w'.heap[gb361]? = some (.cells #[.bool a0_0, (.slice A0_1 l0_1.length c0_1)] 36 (0, 0))) ∧ Aside0 (w'.heap[gb362]? = some (.cells #[.bool a1_0, (.slice A1_1 l1_1.length c1_1)] 36 (0, 0))) ∧ Aside0 (w'.heap[gb363]? = some (.cells #[.bool false, (.slice none 0 0)] 36 (0, 0))) ∧ Aside0 (Below w.heap.size w w'))
 case atStart => exact ⟨(([] : List Int)), (0), (0), (by first | rfl | (simp; done) | (simp [*]; done)), (by first | rfl | (simp; done) | (simp [*]; done)), H', ⟨Nat.le_refl _⟩, ⟨by first | exact Kd.R_nil _ _ _ _ _ | exact Kd.N_nil _ _ _ _ _ | exact Kd.V_nil _ _ _ _ _ | exact Kd.Q_nil _ _ _ _ _ | exact Kd.S_nil _ _ _ _ _⟩, ⟨bk BK361.out⟩, ⟨bk BK362.out⟩, ⟨bk BK363.out⟩, ⟨bl⟩⟩
 clear H'
 clear c3b0 c3b1 c3b2 hcz76_0 hcz76_1 hcz78_0 hcz78_1 hfz76_0 hfz76_1 hfz78_0 hfz78_1
 obtain ⟨x8_1, x9_1, x80_1, rfl, rfl, HA, HK1, HO_8, BK361, BK362, BK363, HB⟩ := hrel
 cases gk with
 | zero => exact absurd HA.out (by simp [plusP.l1])
 | succ k1 =>
  have H := HA.out
  clear HA
  simp only [plusP.l1] at H
  by_cases c79 : x80_1 < (l0_1.length : Int)
  rotate_left
  · rw [if_neg c79] at H
    have c79b0 : decide (x80_1 < (l0_1.length : Int)) = false := decide_eq_false c79
    clear c79
    replace H := Option.bind_eq_some_iff.mp H
    obtain ⟨⟨t383, t384⟩, A1050, H⟩ := H
    replace H : (some (t383, t384)) = some (r1, r2) := H
    have A105 := Aside0.mk A1050
    clear A1050
    simp only [Option.some.injEq, Prod.mk.injEq] at H
    obtain ⟨rfl, rfl⟩ := H
    have hnb106 := NB361_362.out
    have hnc106 := NB362_361.out
    have hnb107 := NB361_363.out
    have hnc107 := NB363_361.out
    obtain ⟨hcz108_0, hcz108_1, hfz108_0, hfz108_1⟩ := bz2 BK361.out
    obtain ⟨Ao109, co109, eo109⟩ := Kd.R_slice HO_8.out
    subst eo109
    go_wp2_with ((with_reducible refine gate_callee (f := 66) rfl ?_); refine goesL_ (some 112) rfl rfl Try.func66 (by kernel_rfl) rfl #[.bool a0_0, .slice Ao109 x8_1.length co109] rfl (by (try simp only [List.map_toArray, List.map_cons, List.map_nil]); first | done | rfl | (simp only [List.length_drop, List.length_take]; rfl)) ?_; (with_reducible refine (maskref4_trim.calls a0_0 (fun k_ => some k_ = (.slice Ao109 x8_1.length co109 : Value).ownBlock) _ _ x8_1 t383 t384 _ ?side1 A105.out).mono ?_); (case side1 => exact Kd.R_V (Kd.R_tight rfl (Kd.R_types (Kd.R_types (Kd.R_types (HO_8.out) BK361.out (by decide)) BK362.out (by decide)) BK363.out (by decide)))); rintro e w110 ⟨v385, rfl, ho0, hb⟩; refine ⟨_, rfl, ?_⟩; have HO386 := Aside0.mk (Kd.V_lower (Kd.V_mono (ok' := fun k_ => (w.heap.size ≤ k_) ∧ k_ ≠ gb361 ∧ k_ ≠ gb362 ∧ k_ ≠ gb363) ho0 (fun k_ hk_ => ⟨Or.elim hk_ (fun hs_ => ((Kd.R_types (Kd.R_types (Kd.R_types (HO_8.out) BK361.out (by decide)) BK362.out (by decide)) BK363.out (by decide)).1 k_ hs_.symm).1.1.1) (fun hn_ => (Nat.le_trans (below_size bl) hn_)), Or.elim hk_ (fun hs_ => ((Kd.R_types (Kd.R_types (Kd.R_types (HO_8.out) BK361.out (by decide)) BK362.out (by decide)) BK363.out (by decide)).1 k_ hs_.symm).1.1.2) (fun hn_ => (Kd.freshB (g := gb361) (o := .cells #[.bool a0_0, .slice A0_1 l0_1.length c0_1] 36 (0, 0)) (bk BK361.out) k_ hn_)), Or.elim hk_ (fun hs_ => ((Kd.R_types (Kd.R_types (Kd.R_types (HO_8.out) BK361.out (by decide)) BK362.out (by decide)) BK363.out (by decide)).1 k_ hs_.symm).1.2) (fun hn_ => (Kd.freshB (g := gb362) (o := .cells #[.bool a1_0, .slice A1_1 l1_1.length c1_1] 36 (0, 0)) (bk BK362.out) k_ hn_)), Or.elim hk_ (fun hs_ => ((Kd.R_types (Kd.R_types (Kd.R_types (HO_8.out) BK361.out (by decide)) BK362.out (by decide)) BK363.out (by decide)).1 k_ hs_.symm).2) (fun hn_ => (Kd.freshB (g := gb363) (o := .cells #[.bool false, .slice none 0 0] 36 (0, 0)) (bk BK363.out) k_ hn_))⟩)) (below_size bl)); replace HO_8 := Aside0.mk (rb HO_8.out hb); replace BK361 := Aside0.mk (bb BK361.out hb); replace BK362 := Aside0.mk (bb BK362.out hb); replace BK363 := Aside0.mk (bb BK363.out hb); replace HB := Aside0.mk (below_step bl hb); (try clear hb); (try clear ho0); have hnb111 := NB363_362.out; have hnc111 := NB362_363.out; obtain ⟨hcz112_0, hcz112_1, hfz112_0, hfz112_1⟩ := bz2 BK363.out; obtain ⟨Ao113, co113, eo113⟩ := Kd.V_slice HO386.out; subst eo113)
    refine bodyPost_ret (results_cell_row rfl _ _ gb363 36 #[.bool t383, .slice Ao113 t384.length co113] (0, 0) _ rfl (by (with_reducible repeat (first | refine blk_drewN ?_ _ | refine blk_drew ?_ | refine blk_alloc ?_ _)); refine blk_put (cs := #[.bool t383, .slice none 0 0]) ?_ 1 _ rfl; (with_reducible repeat (first | refine blk_drewN ?_ _ | refine blk_drew ?_ | refine blk_alloc ?_ _)); refine blk_put (cs := #[.bool false, .slice none 0 0]) ?_ 0 _ rfl; (with_reducible repeat (first | refine blk_drewN ?_ _ | refine blk_drew ?_ | refine blk_alloc ?_ _)); exact BK363.out) Try.underlying36 rfl (by kernel_rfl)) rfl ?_
    exact ⟨_, by first | rfl | (simp [errW_none, errW_some] <;> rfl) | (simp [*, errW_none, errW_some] <;> rfl), by (with_reducible repeat (first | apply Kd.V_alloc | apply Kd.V_drewN | apply Kd.V_drew)); exact Kd.V_mono (Kd.V_far (p := ⟨gb363, 1, none⟩) (Kd.V_far (p := ⟨gb363, 0, none⟩) (Kd.V_mono HO386.out (fun k_ hk => (⟨hk, hk.2.2.2⟩ : _ ∧ k_ ≠ gb363))) (fun _ hk => hk.2) (.bool t383)) (fun _ hk => hk.2) (.slice Ao113 t384.length co113)) (fun _ hk => hk.1.1), bl⟩
  rw [if_pos c79] at H
  have c79b0 : decide (x80_1 < (l0_1.length : Int)) = true := decide_eq_true c79
  clear c79
  by_cases c80 : 0 ≤ x80_1
  rotate_left
  · rw [if_neg c80] at H
    exact absurd H (by simp)
  rw [if_pos c80] at H
  have c80b0 : decide (0 ≤ x80_1) = true := decide_eq_true c80
  clear c80
  by_cases c81 : x80_1 < (l0_1.length : Int)
  rotate_left
  · rw [if_neg c81] at H
    exact absurd H (by simp)
  rw [if_pos c81] at H
  have c81b0 : decide (x80_1 < (l0_1.length : Int)) = true := decide_eq_true c81
  clear c81
  by_cases c82 : x80_1 < (l1_1.length : Int)
  rotate_left
  · rw [if_neg c82] at H
    have c82b0 : decide (x80_1 < (l1_1.length : Int)) = false := decide_eq_false c82
    clear c82
    by_cases c94 : (wrap64 ((rd l0_1 x80_1) - x9_1)) < 0
    · rw [if_pos c94] at H
      have c94b0 : decide ((wrap64 ((rd l0_1 x80_1) - x9_1)) < 0) = true := decide_eq_true c94
      clear c94
      by_cases c95 : x8_1.length < 17592186044416
      rotate_left
      · rw [if_neg c95] at H
        exact absurd H (by simp)
      rw [if_pos c95] at H
      have LMc95 := Aside0.mk c95
      clear c95
      obtain ⟨y395, hy395⟩ : ∃ y_ : List Int, y_ = (x8_1 ++ [wrap64 ((wrap64 ((rd l0_1 x80_1) - x9_1)) + 10)]) := ⟨_, rfl⟩
      replace H : (plusP.l1 k1 y395 1 l0_1 (l0_1.length : Int) (wrap64 (x80_1 + 1)) a0_0 l0_1 a1_0 l1_1) = some (r1, r2) := by first | (rw [hy395]; with_reducible exact H) | (have H2_ := (Option.bind_some _ _).symm.trans H; rw [hy395]; with_reducible exact H2_) | (have H2_ := (Option.bind_some _ _).symm.trans H; with_reducible exact H2_) | with_reducible exact H | (rw [hy395]; exact H) | exact H
      have Ny395 := Aside0.mk hy395
      clear hy395
      have H' := Aside0.mk H
      clear H
      have p387 : 0 ≤ (x80_1 : Int) := of_decide_eq_true (by first | (with_reducible assumption) | assumption)
      have q387 : x80_1 < (l0_1.length : Int) := of_decide_eq_true (by first | (with_reducible assumption) | assumption)
      obtain ⟨ad387, e387, hx387_0⟩ := Kd.at_int HR0_1.out x80_1 p387 q387
      cases e387
      replace hx387_0 := hc HB.out hx387_0
      replace p387 := eq_true p387
      replace q387 := eq_true q387
      have hnb96 := NB362_361.out
      have hnc96 := NB361_362.out
      have hnb97 := NB362_363.out
      have hnc97 := NB363_362.out
      obtain ⟨hcz98_0, hcz98_1, hfz98_0, hfz98_1⟩ := bz2 BK362.out
      go_wp2_with ((with_reducible refine gate_builtin (b := .append) (xs := #[.tmp 104, .tmp 106]) rfl ?_); (try (refine gate_guard (by rfl) ?_; dsimp only)); at_builtin; refine Kd.R_append (Kd.int .i64) (w0 := w) w.heap.size rfl (.tmp 104) (.tmp 106) 34 3 (.int .i64 0) 8 rfl Try.underlying34 info3 rfl (by decide) (by omega) u8 x8_1 (wrap64 ((wrap64 ((rd l0_1 x80_1) - x9_1)) + 10)) [.int .i64 (wrap64 ((wrap64 ((rd l0_1 x80_1) - x9_1)) + 10))] (fun k_ => (w.heap.size ≤ k_)) (fun _ => False) rfl rfl ?aP (fun _ hk => hk.elim) ?aF ?aO ?aB ?aS ?aL ?_; (case aP => exact rfl); (case aB => exact bl); (case aF => exact (fun k_ hk => (Nat.le_trans (below_size bl) hk))); (case aO => exact (by (with_reducible repeat (first | apply Kd.R_alloc | apply Kd.R_drewN | apply Kd.R_drew)); exact HO_8.out)); (case aS => exact (below_size bl)); (case aL => have := LMc95.out; omega); intro v396 w99 ho hb hg hat; rw [← Ny395.out] at ho; replace BK361 := Aside0.mk (blk_grown (bk BK361.out) hg (Kd.R_ne HO_8.out BK361.out (by decide))); replace BK362 := Aside0.mk (blk_grown (bk BK362.out) hg (Kd.R_ne HO_8.out BK362.out (by decide))); replace BK363 := Aside0.mk (blk_grown (bk BK363.out) hg (Kd.R_ne HO_8.out BK363.out (by decide))); replace HB := Aside0.mk (hb); have HO397 := Aside0.mk (ho); clear HO_8; clear ho hb hg hat)
      go_roundg k1
      case measure => have := HK1.out; omega
      case rel => exact ⟨(y395), (1), (wrap64 (x80_1 + 1)), (by first | rfl | (simp; done) | (simp [*]; done)), (by first | rfl | (simp; done) | (simp [*]; done)), H', ⟨by have := HK1.out; omega⟩, ⟨by (with_reducible repeat (first | apply Kd.R_alloc | apply Kd.R_drewN | apply Kd.R_drew)); exact HO397.out⟩, ⟨bk BK361.out⟩, ⟨bk BK362.out⟩, ⟨bk BK363.out⟩, ⟨bl⟩⟩
    rw [if_neg c94] at H
    have c94b0 : decide ((wrap64 ((rd l0_1 x80_1) - x9_1)) < 0) = false := decide_eq_false c94
    clear c94
    by_cases c100 : x8_1.length < 17592186044416
    rotate_left
    · rw [if_neg c100] at H
      exact absurd H (by simp)
    rw [if_pos c100] at H
    have LMc100 := Aside0.mk c100
    clear c100
    obtain ⟨y398, hy398⟩ : ∃ y_ : List Int, y_ = (x8_1 ++ [wrap64 ((rd l0_1 x80_1) - x9_1)]) := ⟨_, rfl⟩
    replace H : (plusP.l1 k1 y398 0 l0_1 (l0_1.length : Int) (wrap64 (x80_1 + 1)) a0_0 l0_1 a1_0 l1_1) = some (r1, r2) := by first | (rw [hy398]; with_reducible exact H) | (have H2_ := (Option.bind_some _ _).symm.trans H; rw [hy398]; with_reducible exact H2_) | (have H2_ := (Option.bind_some _ _).symm.trans H; with_reducible exact H2_) | with_reducible exact H | (rw [hy398]; exact H) | exact H
    have Ny398 := Aside0.mk hy398
    clear hy398
    have H' := Aside0.mk H
    clear H
    have p387 : 0 ≤ (x80_1 : Int) := of_decide_eq_true (by first | (with_reducible assumption) | assumption)
    have q387 : x80_1 < (l0_1.length : Int) := of_decide_eq_true (by first | (with_reducible assumption) | assumption)
    obtain ⟨ad387, e387, hx387_0⟩ := Kd.at_int HR0_1.out x80_1 p387 q387
    cases e387
    replace hx387_0 := hc HB.out hx387_0
    replace p387 := eq_true p387
    replace q387 := eq_true q387
    have hnb101 := NB362_361.out
    have hnc101 := NB361_362.out
    have hnb102 := NB362_363.out
    have hnc102 := NB363_362.out
    obtain ⟨hcz103_0, hcz103_1, hfz103_0, hfz103_1⟩ := bz2 BK362.out
    go_wp2_with ((with_reducible refine gate_builtin (b := .append) (xs := #[.tmp 104, .tmp 106]) rfl ?_); (try (refine gate_guard (by rfl) ?_; dsimp only)); at_builtin; refine Kd.R_append (Kd.int .i64) (w0 := w) w.heap.size rfl (.tmp 104) (.tmp 106) 34 3 (.int .i64 0) 8 rfl Try.underlying34 info3 rfl (by decide) (by omega) u8 x8_1 (wrap64 ((rd l0_1 x80_1) - x9_1)) [.int .i64 (wrap64 ((rd l0_1 x80_1) - x9_1))] (fun k_ => (w.heap.size ≤ k_)) (fun _ => False) rfl rfl ?aP (fun _ hk => hk.elim) ?aF ?aO ?aB ?aS ?aL ?_; (case aP => exact rfl); (case aB => exact bl); (case aF => exact (fun k_ hk => (Nat.le_trans (below_size bl) hk))); (case aO => exact (by (with_reducible repeat (first | apply Kd.R_alloc | apply Kd.R_drewN | apply Kd.R_drew)); exact HO_8.out)); (case aS => exact (below_size bl)); (case aL => have := LMc100.out; omega); intro v399 w104 ho hb hg hat; rw [← Ny398.out] at ho; replace BK361 := Aside0.mk (blk_grown (bk BK361.out) hg (Kd.R_ne HO_8.out BK361.out (by decide))); replace BK362 := Aside0.mk (blk_grown (bk BK362.out) hg (Kd.R_ne HO_8.out BK362.out (by decide))); replace BK363 := Aside0.mk (blk_grown (bk BK363.out) hg (Kd.R_ne HO_8.out BK363.out (by decide))); replace HB := Aside0.mk (hb); have HO400 := Aside0.mk (ho); clear HO_8; clear ho hb hg hat)
    go_roundg k1
    case measure => have := HK1.out; omega
    case rel => exact ⟨(y398), (0), (wrap64 (x80_1 + 1)), (by first | rfl | (simp; done) | (simp [*]; done)), (by first | rfl | (simp; done) | (simp [*]; done)), H', ⟨by have := HK1.out; omega⟩, ⟨by (with_reducible repeat (first | apply Kd.R_alloc | apply Kd.R_drewN | apply Kd.R_drew)); exact HO400.out⟩, ⟨bk BK361.out⟩, ⟨bk BK362.out⟩, ⟨bk BK363.out⟩, ⟨bl⟩⟩
  rw [if_pos c82] at H
  have c82b0 : decide (x80_1 < (l1_1.length : Int)) = true := decide_eq_true c82
  clear c82
  by_cases c83 : (wrap64 ((wrap64 ((rd l0_1 x80_1) - x9_1)) - (rd l1_1 x80_1))) < 0
  · rw [if_pos c83] at H
    have c83b0 : decide ((wrap64 ((wrap64 ((rd l0_1 x80_1) - x9_1)) - (rd l1_1 x80_1))) < 0) = true := decide_eq_true c83
    clear c83
    by_cases c84 : x8_1.length < 17592186044416
    rotate_left
    · rw [if_neg c84] at H
      exact absurd H (by simp)
    rw [if_pos c84] at H
    have LMc84 := Aside0.mk c84
    clear c84
    obtain ⟨y389, hy389⟩ : ∃ y_ : List Int, y_ = (x8_1 ++ [wrap64 ((wrap64 ((wrap64 ((rd l0_1 x80_1) - x9_1)) - (rd l1_1 x80_1))) + 10)]) := ⟨_, rfl⟩
    replace H : (plusP.l1 k1 y389 1 l0_1 (l0_1.length : Int) (wrap64 (x80_1 + 1)) a0_0 l0_1 a1_0 l1_1) = some (r1, r2) := by first | (rw [hy389]; with_reducible exact H) | (have H2_ := (Option.bind_some _ _).symm.trans H; rw [hy389]; with_reducible exact H2_) | (have H2_ := (Option.bind_some _ _).symm.trans H; with_reducible exact H2_) | with_reducible exact H | (rw [hy389]; exact H) | exact H
    have Ny389 := Aside0.mk hy389
    clear hy389
    have H' := Aside0.mk H
    clear H
    have p387 : 0 ≤ (x80_1 : Int) := of_decide_eq_true (by first | (with_reducible assumption) | assumption)
    have q387 : x80_1 < (l0_1.length : Int) := of_decide_eq_true (by first | (with_reducible assumption) | assumption)
    obtain ⟨ad387, e387, hx387_0⟩ := Kd.at_int HR0_1.out x80_1 p387 q387
    cases e387
    replace hx387_0 := hc HB.out hx387_0
    replace p387 := eq_true p387
    replace q387 := eq_true q387
    have hnb85 := NB362_361.out
    have hnc85 := NB361_362.out
    have hnb86 := NB362_363.out
    have hnc86 := NB363_362.out
    obtain ⟨hcz87_0, hcz87_1, hfz87_0, hfz87_1⟩ := bz2 BK362.out
    have p388 : 0 ≤ (x80_1 : Int) := of_decide_eq_true (by first | (with_reducible assumption) | assumption)
    have q388 : x80_1 < (l1_1.length : Int) := of_decide_eq_true (by first | (with_reducible assumption) | assumption)
    obtain ⟨ad388, e388, hx388_0⟩ := Kd.at_int HR1_1.out x80_1 p388 q388
    cases e388
    replace hx388_0 := hc HB.out hx388_0
    replace p388 := eq_true p388
    replace q388 := eq_true q388
    go_wp2_with ((with_reducible refine gate_builtin (b := .append) (xs := #[.tmp 104, .tmp 106]) rfl ?_); (try (refine gate_guard (by rfl) ?_; dsimp only)); at_builtin; refine Kd.R_append (Kd.int .i64) (w0 := w) w.heap.size rfl (.tmp 104) (.tmp 106) 34 3 (.int .i64 0) 8 rfl Try.underlying34 info3 rfl (by decide) (by omega) u8 x8_1 (wrap64 ((wrap64 ((wrap64 ((rd l0_1 x80_1) - x9_1)) - (rd l1_1 x80_1))) + 10)) [.int .i64 (wrap64 ((wrap64 ((wrap64 ((rd l0_1 x80_1) - x9_1)) - (rd l1_1 x80_1))) + 10))] (fun k_ => (w.heap.size ≤ k_)) (fun _ => False) rfl rfl ?aP (fun _ hk => hk.elim) ?aF ?aO ?aB ?aS ?aL ?_; (case aP => exact rfl); (case aB => exact bl); (case aF => exact (fun k_ hk => (Nat.le_trans (below_size bl) hk))); (case aO => exact (by (with_reducible repeat (first | apply Kd.R_alloc | apply Kd.R_drewN | apply Kd.R_drew)); exact HO_8.out)); (case aS => exact (below_size bl)); (case aL => have := LMc84.out; omega); intro v390 w88 ho hb hg hat; rw [← Ny389.out] at ho; replace BK361 := Aside0.mk (blk_grown (bk BK361.out) hg (Kd.R_ne HO_8.out BK361.out (by decide))); replace BK362 := Aside0.mk (blk_grown (bk BK362.out) hg (Kd.R_ne HO_8.out BK362.out (by decide))); replace BK363 := Aside0.mk (blk_grown (bk BK363.out) hg (Kd.R_ne HO_8.out BK363.out (by decide))); replace HB := Aside0.mk (hb); have HO391 := Aside0.mk (ho); clear HO_8; clear ho hb hg hat)
    go_roundg k1
    case measure => have := HK1.out; omega
    case rel => exact ⟨(y389), (1), (wrap64 (x80_1 + 1)), (by first | rfl | (simp; done) | (simp [*]; done)), (by first | rfl | (simp; done) | (simp [*]; done)), H', ⟨by have := HK1.out; omega⟩, ⟨by (with_reducible repeat (first | apply Kd.R_alloc | apply Kd.R_drewN | apply Kd.R_drew)); exact HO391.out⟩, ⟨bk BK361.out⟩, ⟨bk BK362.out⟩, ⟨bk BK363.out⟩, ⟨bl⟩⟩
  rw [if_neg c83] at H
  have c83b0 : decide ((wrap64 ((wrap64 ((rd l0_1 x80_1) - x9_1)) - (rd l1_1 x80_1))) < 0) = false := decide_eq_false c83
  clear c83
  by_cases c89 : x8_1.length < 17592186044416
  rotate_left
  · rw [if_neg c89] at H
    exact absurd H (by simp)
  rw [if_pos c89] at H
  have LMc89 := Aside0.mk c89
  clear c89
  obtain ⟨y392, hy392⟩ : ∃ y_ : List Int, y_ = (x8_1 ++ [wrap64 ((wrap64 ((rd l0_1 x80_1) - x9_1)) - (rd l1_1 x80_1))]) := ⟨_, rfl⟩
  replace H : (plusP.l1 k1 y392 0 l0_1 (l0_1.length : Int) (wrap64 (x80_1 + 1)) a0_0 l0_1 a1_0 l1_1) = some (r1, r2) := by first | (rw [hy392]; with_reducible exact H) | (have H2_ := (Option.bind_some _ _).symm.trans H; rw [hy392]; with_reducible exact H2_) | (have H2_ := (Option.bind_some _ _).symm.trans H; with_reducible exact H2_) | with_reducible exact H | (rw [hy392]; exact H) | exact H
  have Ny392 := Aside0.mk hy392
  clear hy392
  have H' := Aside0.mk H
  clear H
  have p387 : 0 ≤ (x80_1 : Int) := of_decide_eq_true (by first | (with_reducible assumption) | assumption)
  have q387 : x80_1 < (l0_1.length : Int) := of_decide_eq_true (by first | (with_reducible assumption) | assumption)
  obtain ⟨ad387, e387, hx387_0⟩ := Kd.at_int HR0_1.out x80_1 p387 q387
  cases e387
  replace hx387_0 := hc HB.out hx387_0
  replace p387 := eq_true p387
  replace q387 := eq_true q387
  have hnb90 := NB362_361.out
  have hnc90 := NB361_362.out
  have hnb91 := NB362_363.out
  have hnc91 := NB363_362.out
  obtain ⟨hcz92_0, hcz92_1, hfz92_0, hfz92_1⟩ := bz2 BK362.out
  have p388 : 0 ≤ (x80_1 : Int) := of_decide_eq_true (by first | (with_reducible assumption) | assumption)
  have q388 : x80_1 < (l1_1.length : Int) := of_decide_eq_true (by first | (with_reducible assumption) | assumption)
  obtain ⟨ad388, e388, hx388_0⟩ := Kd.at_int HR1_1.out x80_1 p388 q388
  cases e388
  replace hx388_0 := hc HB.out hx388_0
  replace p388 := eq_true p388
  replace q388 := eq_true q388
  go_wp2_with ((with_reducible refine gate_builtin (b := .append) (xs := #[.tmp 104, .tmp 106]) rfl ?_); (try (refine gate_guard (by rfl) ?_; dsimp only)); at_builtin; refine Kd.R_append (Kd.int .i64) (w0 := w) w.heap.size rfl (.tmp 104) (.tmp 106) 34 3 (.int .i64 0) 8 rfl Try.underlying34 info3 rfl (by decide) (by omega) u8 x8_1 (wrap64 ((wrap64 ((rd l0_1 x80_1) - x9_1)) - (rd l1_1 x80_1))) [.int .i64 (wrap64 ((wrap64 ((rd l0_1 x80_1) - x9_1)) - (rd l1_1 x80_1)))] (fun k_ => (w.heap.size ≤ k_)) (fun _ => False) rfl rfl ?aP (fun _ hk => hk.elim) ?aF ?aO ?aB ?aS ?aL ?_; (case aP => exact rfl); (case aB => exact bl); (case aF => exact (fun k_ hk => (Nat.le_trans (below_size bl) hk))); (case aO => exact (by (with_reducible repeat (first | apply Kd.R_alloc | apply Kd.R_drewN | apply Kd.R_drew)); exact HO_8.out)); (case aS => exact (below_size bl)); (case aL => have := LMc89.out; omega); intro v393 w93 ho hb hg hat; rw [← Ny392.out] at ho; replace BK361 := Aside0.mk (blk_grown (bk BK361.out) hg (Kd.R_ne HO_8.out BK361.out (by decide))); replace BK362 := Aside0.mk (blk_grown (bk BK362.out) hg (Kd.R_ne HO_8.out BK362.out (by decide))); replace BK363 := Aside0.mk (blk_grown (bk BK363.out) hg (Kd.R_ne HO_8.out BK363.out (by decide))); replace HB := Aside0.mk (hb); have HO394 := Aside0.mk (ho); clear HO_8; clear ho hb hg hat)
  go_roundg k1
  case measure => have := HK1.out; omega
  case rel => exact ⟨(y392), (0), (wrap64 (x80_1 + 1)), (by first | rfl | (simp; done) | (simp [*]; done)), (by first | rfl | (simp; done) | (simp [*]; done)), H', ⟨by have := HK1.out; omega⟩, ⟨by (with_reducible repeat (first | apply Kd.R_alloc | apply Kd.R_drewN | apply Kd.R_drew)); exact HO394.out⟩, ⟨bk BK361.out⟩, ⟨bk BK362.out⟩, ⟨bk BK363.out⟩, ⟨bl⟩⟩
def maskref4_Dec_Plus.f (k : Nat) (a0_0 : Bool) (l0_1 : List Int) (a1_0 : Bool) (l1_1 : List Int) : Option (Bool × List Int) := if (a0_0 == a1_0) = true then plusP.l0 k ([] : List Int) 0 0 a0_0 l0_1 a1_0 l1_1 else (maskref4_less.f k l0_1 l1_1).bind fun t => if t = true then plusP.l1 k ([] : List Int) 0 l1_1 (l1_1.length : Int) 0 a1_0 l1_1 a0_0 l0_1 else plusP.l1 k ([] : List Int) 0 l0_1 (l0_1.length : Int) 0 a0_0 l0_1 a1_0 l1_1
theorem maskref4_Dec_Plus.mono : ∀ a0 a1 a2 a3 k, LeO (maskref4_Dec_Plus.f k a0 a1 a2 a3) (maskref4_Dec_Plus.f (k + 1) a0 a1 a2 a3) := by
 intro a0 a1 a2 a3 k
 unfold maskref4_Dec_Plus.f
 refine LeO.ite ((plusP.mono_l k).1 _ _ _ _ _ _ _) (LeO.bind (maskref4_less.mono _ _ k) (fun t => LeO.ite ((plusP.mono_l k).2.2 _ _ _ _ _ _ _ _ _) ((plusP.mono_l k).2.2 _ _ _ _ _ _ _ _ _)))
theorem maskref4_Dec_Plus.calls (k : Nat) (a0_0 : Bool) (A0_1 : Option Addr) (c0_1 : Nat) (l0_1 : List Int) (a1_0 : Bool) (A1_1 : Option Addr) (c1_1 : Nat) (l1_1 : List Int) (r1 : Bool) (r2 : List Int) (w : World) (hr0_1 : Kd.C (Kd.int .i64) w A0_1 l0_1.length l0_1) (hc0_1 : l0_1.length ≤ c0_1) (hr1_1 : Kd.C (Kd.int .i64) w A1_1 l1_1.length l1_1) (hc1_1 : l1_1.length ≤ c1_1) (h : maskref4_Dec_Plus.f k a0_0 l0_1 a1_0 l1_1 = some (r1, r2)) :
 Calls Try.prog 46 #[.agg #[.bool a0_0, .slice A0_1 l0_1.length c0_1], .agg #[.bool a1_0, .slice A1_1 l1_1.length c1_1]] w fun e w' => ∃ v1_ : Value, e = .returned (.agg #[.bool r1, v1_]) ∧ Kd.V (Kd.int .i64) 3 w' w.heap.size (fun k_ => (w.heap.size ≤ k_)) v1_ r2 ∧ Below w.heap.size w w' := by
 unfold maskref4_Dec_Plus.f at h
 by_cases c3 : (a0_0 == a1_0) = true
 · rw [if_pos c3] at h
   exact plusP.same k a0_0 A0_1 c0_1 l0_1 a1_0 A1_1 c1_1 l1_1 r1 r2 w hr0_1 hc0_1 hr1_1 hc1_1 c3 h
 rw [if_neg c3] at h
 obtain ⟨t, hl, h⟩ := Option.bind_eq_some_iff.mp h
 cases t with
 | true => exact plusP.diffB k a1_0 A1_1 c1_1 l1_1 a0_0 A0_1 c0_1 l0_1 r1 r2 w hr1_1 hc1_1 hr0_1 hc0_1 (by cases a0_0 <;> cases a1_0 <;> simp_all) hl (by simpa using h)
 | false => exact plusP.diffA k a0_0 A0_1 c0_1 l0_1 a1_0 A1_1 c1_1 l1_1 r1 r2 w hr0_1 hc0_1 hr1_1 hc1_1 c3 hl (by simpa using h)

end Go.Proofs.Ytlbljdjbcbgnlaa.PX
namespace Go.Proofs.Ytlbljdjbcbgnlaa.PX
open Go.RowKit Go.Proofs.YtlbljdjbcbgnlaaW.PrintWords Go.Proofs.YtlbljdjbcbgnlaaW.PrintLast Go.Proofs.YtlbljdjbcbgnlaaW.PrintMore
attribute [local go_sem] max2_int min2_int max_two min_two max_three min_three max_four min_four   -- for this text's walks alone
set_option linter.unusedVariables false
set_option linter.unusedSimpArgs false

-- the contract of function 47 ((maskwright/maskref4.Dec).Minus): written by hand
/-! ### maskref4_Dec_Minus: function 47 -/
theorem outW {W : World} {b g : Nat} {v : Value} {xs : List Int} {ok ok' : Nat → Prop} (h : Kd.V (Kd.int .i64) 3 W b ok v xs) (hok : ∀ k, ok k → k ≠ g) (x y : Value) (hok' : ∀ k, ok k → ok' k) : Kd.V (Kd.int .i64) 3 ((W.setCell ⟨g, 0, none⟩ x).setCell ⟨g, 1, none⟩ y) b ok' v xs :=
 Kd.V_mono (Kd.V_far (Kd.V_far (p := ⟨g, 0, none⟩) h hok x) (p := ⟨g, 1, none⟩) hok y) hok'
def maskref4_Dec_Minus.f (k : Nat) (a0_0 : Bool) (l0_1 : List Int) (a1_0 : Bool) (l1_1 : List Int) : Option (Bool × List Int) := maskref4_Dec_Plus.f k a0_0 l0_1 (!a1_0 && decide (0 < l1_1.length)) l1_1
theorem maskref4_Dec_Minus.mono : ∀ a0 a1 a2 a3 k, LeO (maskref4_Dec_Minus.f k a0 a1 a2 a3) (maskref4_Dec_Minus.f (k + 1) a0 a1 a2 a3) := fun a0 a1 a2 a3 k => maskref4_Dec_Plus.mono _ _ _ _ k
set_option maxHeartbeats 8000000 in
set_option maxRecDepth 100000 in
theorem maskref4_Dec_Minus.calls (k : Nat) (a0_0 : Bool) (A0_1 : Option Addr) (c0_1 : Nat) (l0_1 : List Int) (a1_0 : Bool) (A1_1 : Option Addr) (c1_1 : Nat) (l1_1 : List Int) (r1 : Bool) (r2 : List Int) (w : World) (hr0_1 : Kd.C (Kd.int .i64) w A0_1 l0_1.length l0_1) (hc0_1 : l0_1.length ≤ c0_1) (hr1_1 : Kd.C (Kd.int .i64) w A1_1 l1_1.length l1_1) (hc1_1 : l1_1.length ≤ c1_1) (h : maskref4_Dec_Minus.f k a0_0 l0_1 a1_0 l1_1 = some (r1, r2)) :
 Calls Try.prog 47 #[.agg #[.bool a0_0, .slice A0_1 l0_1.length c0_1], .agg #[.bool a1_0, .slice A1_1 l1_1.length c1_1]] w fun e w' => ∃ v1_ : Value, e = .returned (.agg #[.bool r1, v1_]) ∧ Kd.V (Kd.int .i64) 3 w' w.heap.size (fun k_ => (w.heap.size ≤ k_)) v1_ r2 ∧ Below w.heap.size w w' := by
 unfold maskref4_Dec_Minus.f at h
 have HB := Aside0.mk (below_alloc (below_alloc (below_alloc (Below.refl w.heap.size w) (.cells #[.bool a0_0, .slice A0_1 l0_1.length c0_1] 36)) (.cells #[.bool a1_0, .slice A1_1 l1_1.length c1_1] 36)) (.cells #[.bool false, .slice none 0 0] 36))
 have X0 := Aside0.mk (blk_alloc (blk_alloc (blk_new w (.cells #[.bool a0_0, .slice A0_1 l0_1.length c0_1] 36)) (.cells #[.bool a1_0, .slice A1_1 l1_1.length c1_1] 36)) (.cells #[.bool false, .slice none 0 0] 36))
 have X1 := Aside0.mk (blk_alloc (Hnd.blk_new1 w (.cells #[.bool a0_0, .slice A0_1 l0_1.length c0_1] 36) (.cells #[.bool a1_0, .slice A1_1 l1_1.length c1_1] 36)) (.cells #[.bool false, .slice none 0 0] 36))
 have X2 := Aside0.mk (Hnd.blk_new2 w (.cells #[.bool a0_0, .slice A0_1 l0_1.length c0_1] 36) (.cells #[.bool a1_0, .slice A1_1 l1_1.length c1_1] 36) (.cells #[.bool false, .slice none 0 0] 36))
 have R0 := Aside0.mk (Kd.C_below hr0_1 HB.out)
 have R1 := Aside0.mk (Kd.C_below hr1_1 HB.out)
 clear hr0_1 hr1_1
 go_enter Try.func47, Try.ntmps47
 go_upto_region 1 with (fail)
 have hs : ((w.alloc (.cells #[.bool a0_0, .slice A0_1 l0_1.length c0_1] 36)).alloc (.cells #[.bool a1_0, .slice A1_1 l1_1.length c1_1] 36)).alloc (.cells #[.bool false, .slice none 0 0] 36) = ((w.alloc (.cells #[.bool a0_0, .slice A0_1 l0_1.length c0_1] 36)).alloc (.cells #[.bool a1_0, .slice A1_1 l1_1.length c1_1] 36)).alloc (.cells #[.bool false, .slice none 0 0] 36) := rfl
 have hsz : (((w.alloc (.cells #[.bool a0_0, .slice A0_1 l0_1.length c0_1] 36)).alloc (.cells #[.bool a1_0, .slice A1_1 l1_1.length c1_1] 36)).alloc (.cells #[.bool false, .slice none 0 0] 36)).heap.size = w.heap.size + 3 := by simp
 generalize ((w.alloc (.cells #[.bool a0_0, .slice A0_1 l0_1.length c0_1] 36)).alloc (.cells #[.bool a1_0, .slice A1_1 l1_1.length c1_1] 36)).alloc (.cells #[.bool false, .slice none 0 0] 36) = w0 at *
 clear hs
 have x0 : w0.cell? ⟨w.heap.size, 0, none⟩ = some (.bool a0_0) := (blk_cell X0.out 0).trans rfl
 have x1 : w0.cell? ⟨w.heap.size, 1, none⟩ = some (.slice A0_1 l0_1.length c0_1) := (blk_cell X0.out 1).trans rfl
 have y0 : w0.cell? ⟨w.heap.size + 1, 0, none⟩ = some (.bool a1_0) := (blk_cell X1.out 0).trans rfl
 have y1 : w0.cell? ⟨w.heap.size + 1, 1, none⟩ = some (.slice A1_1 l1_1.length c1_1) := (blk_cell X1.out 1).trans rfl
 obtain ⟨d, hd⟩ : ∃ d, decide (0 < l1_1.length) = d := ⟨_, rfl⟩
 have hd2 : decide ((0 : Int) < (l1_1.length : Int)) = d := by rw [← hd]; simp
 have hd3 : decide ((l1_1.length : Int) > 0) = d := hd2
 rw [hd] at h
 have E := Aside0.mk hd
 obtain ⟨nb, hnb⟩ : ∃ nb, (!a1_0 && d) = nb := ⟨_, rfl⟩
 rw [hnb] at h
 have HH := Aside0.mk h
 have HZ := Aside0.mk hsz
 clear h hsz
 cases a1_0 with
 | true =>
  simp only [Bool.not_true, Bool.false_and] at hnb
  subst hnb
  go_wp2_with fail
  refine (maskref4_Dec_Plus.calls k a0_0 A0_1 c0_1 l0_1 false A1_1 c1_1 l1_1 r1 r2 _ R0.out hc0_1 R1.out hc1_1 HH.out).mono ?_
  rintro e w1 ⟨v, rfl, hV, hw⟩
  obtain ⟨Av, cv, rfl⟩ := Kd.V_slice hV
  replace HB := Aside0.mk (below_step HB.out hw)
  replace X2 := Aside0.mk (blk_below X2.out hw)
  clear x0 x1 y0 y1 hw
  have z0 : w1.cell? ⟨w.heap.size + 1 + 1, 0, none⟩ = some (.bool false) := (blk_cell X2.out 0).trans rfl
  have z1 : w1.cell? ⟨w.heap.size + 1 + 1, 1, none⟩ = some (.slice none 0 0) := (blk_cell X2.out 1).trans rfl
  have y0 : w1.frozen? ⟨w.heap.size + 1 + 1, 0, none⟩ = false := blk_frozen X2.out 0
  have y1 : w1.frozen? ⟨w.heap.size + 1 + 1, 1, none⟩ = false := blk_frozen X2.out 1
  go_wp2
  refine bodyPost_ret (results_cell_row rfl _ _ (w.heap.size + 1 + 1) 36 #[.bool r1, .slice Av r2.length cv] (0, 0) _ rfl (blk_put (cs := #[.bool r1, .slice none 0 0]) (blk_put (cs := #[.bool false, .slice none 0 0]) X2.out 0 _ rfl) 1 _ rfl) Try.underlying36 rfl (by kernel_rfl)) rfl ?_
  exact ⟨_, rfl, outW hV (fun k hk => by have := HZ.out; omega) _ _ (fun k hk => by have := HZ.out; omega), below_set (below_set HB.out (by omega)) (by omega)⟩
 | false =>
  simp only [Bool.not_false, Bool.true_and] at hnb
  subst hnb
  cases d with
  | true =>
   go_wp2_with fail
   refine (maskref4_Dec_Plus.calls k a0_0 A0_1 c0_1 l0_1 true A1_1 c1_1 l1_1 r1 r2 _ R0.out hc0_1 R1.out hc1_1 HH.out).mono ?_
   rintro e w1 ⟨v, rfl, hV, hw⟩
   obtain ⟨Av, cv, rfl⟩ := Kd.V_slice hV
   replace HB := Aside0.mk (below_step HB.out hw)
   replace X2 := Aside0.mk (blk_below X2.out hw)
   clear x0 x1 y0 y1 hw
   have z0 : w1.cell? ⟨w.heap.size + 1 + 1, 0, none⟩ = some (.bool false) := (blk_cell X2.out 0).trans rfl
   have z1 : w1.cell? ⟨w.heap.size + 1 + 1, 1, none⟩ = some (.slice none 0 0) := (blk_cell X2.out 1).trans rfl
   have y0 : w1.frozen? ⟨w.heap.size + 1 + 1, 0, none⟩ = false := blk_frozen X2.out 0
   have y1 : w1.frozen? ⟨w.heap.size + 1 + 1, 1, none⟩ = false := blk_frozen X2.out 1
   go_wp2
   refine bodyPost_ret (results_cell_row rfl _ _ (w.heap.size + 1 + 1) 36 #[.bool r1, .slice Av r2.length cv] (0, 0) _ rfl (blk_put (cs := #[.bool r1, .slice none 0 0]) (blk_put (cs := #[.bool false, .slice none 0 0]) X2.out 0 _ rfl) 1 _ rfl) Try.underlying36 rfl (by kernel_rfl)) rfl ?_
   exact ⟨_, rfl, outW hV (fun k hk => by have := HZ.out; omega) _ _ (fun k hk => by have := HZ.out; omega), below_set (below_set HB.out (by omega)) (by omega)⟩
  | false =>
   go_wp2_with fail
   refine (maskref4_Dec_Plus.calls k a0_0 A0_1 c0_1 l0_1 false A1_1 c1_1 l1_1 r1 r2 _ R0.out hc0_1 R1.out hc1_1 HH.out).mono ?_
   rintro e w1 ⟨v, rfl, hV, hw⟩
   obtain ⟨Av, cv, rfl⟩ := Kd.V_slice hV
   replace HB := Aside0.mk (below_step HB.out hw)
   replace X2 := Aside0.mk (blk_below X2.out hw)
   clear x0 x1 y0 y1 hw
   have z0 : w1.cell? ⟨w.heap.size + 1 + 1, 0, none⟩ = some (.bool false) := (blk_cell X2.out 0).trans rfl
   have z1 : w1.cell? ⟨w.heap.size + 1 + 1, 1, none⟩ = some (.slice none 0 0) := (blk_cell X2.out 1).trans rfl
   have y0 : w1.frozen? ⟨w.heap.size + 1 + 1, 0, none⟩ = false := blk_frozen X2.out 0
   have y1 : w1.frozen? ⟨w.heap.size + 1 + 1, 1, none⟩ = false := blk_frozen X2.out 1
   go_wp2
   refine bodyPost_ret (results_cell_row rfl _ _ (w.heap.size + 1 + 1) 36 #[.bool r1, .slice Av r2.length cv] (0, 0) _ rfl (blk_put (cs := #[.bool r1, .slice none 0 0]) (blk_put (cs := #[.bool false, .slice none 0 0]) X2.out 0 _ rfl) 1 _ rfl) Try.underlying36 rfl (by kernel_rfl)) rfl ?_
   exact ⟨_, rfl, outW hV (fun k hk => by have := HZ.out; omega) _ _ (fun k hk => by have := HZ.out; omega), below_set (below_set HB.out (by omega)) (by omega)⟩

end Go.Proofs.Ytlbljdjbcbgnlaa.PX
