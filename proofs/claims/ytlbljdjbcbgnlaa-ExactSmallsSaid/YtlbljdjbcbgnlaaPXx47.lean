-- PRINTED by print.py (a twelfth state) out of the translation. Not trusted: Lean checks it.
import Derived.Test.YtlbljdjbcbgnlaaCmp
import Derived.Test.YtlbljdjbcbgnlaaPXx0
import Derived.Test.YtlbljdjbcbgnlaaPXx38
namespace Go.Proofs.Ytlbljdjbcbgnlaa.PX
open Go.RowKit Go.Proofs.YtlbljdjbcbgnlaaW.PrintWords Go.Proofs.YtlbljdjbcbgnlaaW.PrintLast Go.Proofs.YtlbljdjbcbgnlaaW.PrintMore
attribute [local go_sem] max2_int min2_int max_two min_two max_three min_three max_four min_four   -- for this text's walks alone
set_option linter.unusedVariables false
set_option linter.unusedSimpArgs false

/-! ### maskref4_less: function 81 -/
def maskref4_less.l0 : Nat → List Int → List Int → Int → Option (Bool)
 | 0, _, _, _ => none
 | k + 1, x0, x1, x5 => if x5 ≥ 0 then (if 0 ≤ x5 then (if x5 < (x0.length : Int) then (if x5 < (x1.length : Int) then (if (rd x0 x5) = (rd x1 x5) then (maskref4_less.l0 k x0 x1 (wrap64 (x5 - 1))) else (some (decide ((rd x0 x5) < (rd x1 x5))))) else (none)) else (none)) else (none)) else (some false)
def maskref4_less.f (k : Nat) (l0 : List Int) (l1 : List Int) : Option (Bool) := if (l0.length : Int) = (l1.length : Int) then (maskref4_less.l0 k l0 l1 (wrap64 ((l0.length : Int) - 1))) else (some (decide ((l0.length : Int) < (l1.length : Int))))
theorem maskref4_less.mono_l : ∀ k, (∀ y0 y1 y2, LeO (maskref4_less.l0 k y0 y1 y2) (maskref4_less.l0 (k + 1) y0 y1 y2))
 | 0 => fun _ _ _ r h => by simp [maskref4_less.l0] at h
 | k + 1 => by
  have ih0 := maskref4_less.mono_l k
  · intro y0 y1 y2
    unfold maskref4_less.l0
    repeat' first
    | (with_reducible exact ih0 _ _ _)
    | (with_reducible exact LeO.refl _)
    | (with_reducible exact LeO.none _)
    | (with_reducible refine LeO.ite ?_ ?_)
    | (with_reducible refine LeO.bind ?_ (fun _ => ?_))
theorem maskref4_less.mono : ∀ a0 a1 k, LeO (maskref4_less.f k a0 a1) (maskref4_less.f (k + 1) a0 a1) := by
 intro a0 a1 k
 have ih0 := maskref4_less.mono_l k
 unfold maskref4_less.f
 repeat' first
  | (with_reducible exact ih0 _ _ _)
  | (with_reducible exact LeO.refl _)
  | (with_reducible exact LeO.none _)
  | (with_reducible refine LeO.ite ?_ ?_)
  | (with_reducible refine LeO.bind ?_ (fun _ => ?_))
set_option maxHeartbeats 8000000 in
set_option maxRecDepth 100000 in
theorem maskref4_less.calls (k : Nat) (A0 : Option Addr) (c0 : Nat) (l0 : List Int) (A1 : Option Addr) (c1 : Nat) (l1 : List Int) (r : Bool) (w : World) (hr0 : Kd.C (Kd.int .i64) w A0 l0.length l0) (hc0 : l0.length ≤ c0) (hr1 : Kd.C (Kd.int .i64) w A1 l1.length l1) (hc1 : l1.length ≤ c1) (h : maskref4_less.f k l0 l1 = some r) :
 Calls Try.prog 81 #[.slice A0 l0.length c0, .slice A1 l1.length c1] w fun e w' => e = .returned (.bool r) ∧ Drawn0 w w' := by
 have HR0 := Aside0.mk hr0
 clear hr0 hc0
 have HR1 := Aside0.mk hr1
 clear hr1 hc1
 have H : (if (l0.length : Int) = (l1.length : Int) then (maskref4_less.l0 k l0 l1 (wrap64 ((l0.length : Int) - 1))) else (some (decide ((l0.length : Int) < (l1.length : Int))))) = some r := h
 clear h
 by_cases c3 : (l0.length : Int) = (l1.length : Int)
 rotate_left
 · rw [if_neg c3] at H
   have c3b1 : ((l0.length : Int) != (l1.length : Int)) = true := bne_iff_ne.mpr c3
   obtain rfl := Option.some.inj H
   go_enter Try.func81, Try.ntmps81
   go_wp2
   repeat (go_quiet (fail); try go_wp2)
   go_ret
   exact ⟨by first | rfl | (simp; done) | (simp [*]; done), by repeat (first | exact Drawn0.refl _ | apply Drawn0.step)⟩
 rw [if_pos c3] at H
 have c3b0 : ((l0.length : Int) == (l1.length : Int)) = true := beq_iff_eq.mpr c3
 have c3b1 : ((l0.length : Int) != (l1.length : Int)) = false := bne_eq_false_iff_eq.mpr c3
 have c3b2 : (l0.length == l1.length) = true := by first | simpa using c3 | (simp at c3 ⊢; omega)
 clear c3
 have H' := Aside0.mk H
 clear H
 go_enter Try.func81, Try.ntmps81
 go_wp2
 repeat (go_quiet (fail); try go_wp2)
 go_loopg [5] k (fun kq v5 w' => ∃ (x5_1 : Int), v5 = .int .i64 x5_1 ∧ Aside0 (maskref4_less.l0 kq l0 l1 x5_1 = some r) ∧ Aside0 (kq ≤ k) ∧ Drawn0 w w')
 case atStart => exact ⟨(wrap64 ((l0.length : Int) - 1)), (by first | rfl | (simp; done) | (simp [*]; done)), H', ⟨Nat.le_refl _⟩, by repeat (first | exact Drawn0.refl _ | apply Drawn0.step)⟩
 clear H'
 clear c3b0 c3b1 c3b2
 obtain ⟨x5_1, rfl, HA, HK1, ⟨m1, rfl⟩⟩ := hrel
 cases gk with
 | zero => exact absurd HA.out (by simp [maskref4_less.l0])
 | succ k1 =>
  have H := HA.out
  clear HA
  simp only [maskref4_less.l0] at H
  by_cases c4 : x5_1 ≥ 0
  rotate_left
  · rw [if_neg c4] at H
    have c4b0 : decide (0 ≤ x5_1) = false := decide_eq_false c4
    clear c4
    obtain rfl := Option.some.inj H
    go_wp2
    repeat (go_quiet (fail); try go_wp2)
    go_ret
    exact ⟨by first | rfl | (simp; done) | (simp [*]; done), by repeat (first | exact Drawn0.refl _ | apply Drawn0.step)⟩
  rw [if_pos c4] at H
  have c4b0 : decide (0 ≤ x5_1) = true := decide_eq_true c4
  clear c4
  by_cases c5 : 0 ≤ x5_1
  rotate_left
  · rw [if_neg c5] at H
    exact absurd H (by simp)
  rw [if_pos c5] at H
  have c5b0 : decide (0 ≤ x5_1) = true := decide_eq_true c5
  clear c5
  by_cases c6 : x5_1 < (l0.length : Int)
  rotate_left
  · rw [if_neg c6] at H
    exact absurd H (by simp)
  rw [if_pos c6] at H
  have c6b0 : decide (x5_1 < (l0.length : Int)) = true := decide_eq_true c6
  clear c6
  by_cases c7 : x5_1 < (l1.length : Int)
  rotate_left
  · rw [if_neg c7] at H
    exact absurd H (by simp)
  rw [if_pos c7] at H
  have c7b0 : decide (x5_1 < (l1.length : Int)) = true := decide_eq_true c7
  clear c7
  by_cases c8 : (rd l0 x5_1) = (rd l1 x5_1)
  · rw [if_pos c8] at H
    have c8b1 : ((rd l0 x5_1) != (rd l1 x5_1)) = false := bne_eq_false_iff_eq.mpr c8
    clear c8
    have H' := Aside0.mk H
    clear H
    have p306 : 0 ≤ (x5_1 : Int) := of_decide_eq_true (by first | (with_reducible assumption) | assumption)
    have q306 : x5_1 < (l0.length : Int) := of_decide_eq_true (by first | (with_reducible assumption) | assumption)
    obtain ⟨ad306, e306, hx306_0⟩ := Kd.at_int HR0.out x5_1 p306 q306
    cases e306
    replace p306 := eq_true p306
    replace q306 := eq_true q306
    have p307 : 0 ≤ (x5_1 : Int) := of_decide_eq_true (by first | (with_reducible assumption) | assumption)
    have q307 : x5_1 < (l1.length : Int) := of_decide_eq_true (by first | (with_reducible assumption) | assumption)
    obtain ⟨ad307, e307, hx307_0⟩ := Kd.at_int HR1.out x5_1 p307 q307
    cases e307
    replace p307 := eq_true p307
    replace q307 := eq_true q307
    go_wp2
    repeat (go_quiet (fail); try go_wp2)
    go_roundg k1
    case measure => have := HK1.out; omega
    case rel => exact ⟨(wrap64 (x5_1 - 1)), (by first | rfl | (simp; done) | (simp [*]; done)), H', ⟨by have := HK1.out; omega⟩, by repeat (first | exact Drawn0.refl _ | apply Drawn0.step)⟩
  rw [if_neg c8] at H
  have c8b1 : ((rd l0 x5_1) != (rd l1 x5_1)) = true := bne_iff_ne.mpr c8
  obtain rfl := Option.some.inj H
  have p306 : 0 ≤ (x5_1 : Int) := of_decide_eq_true (by first | (with_reducible assumption) | assumption)
  have q306 : x5_1 < (l0.length : Int) := of_decide_eq_true (by first | (with_reducible assumption) | assumption)
  obtain ⟨ad306, e306, hx306_0⟩ := Kd.at_int HR0.out x5_1 p306 q306
  cases e306
  replace p306 := eq_true p306
  replace q306 := eq_true q306
  have p307 : 0 ≤ (x5_1 : Int) := of_decide_eq_true (by first | (with_reducible assumption) | assumption)
  have q307 : x5_1 < (l1.length : Int) := of_decide_eq_true (by first | (with_reducible assumption) | assumption)
  obtain ⟨ad307, e307, hx307_0⟩ := Kd.at_int HR1.out x5_1 p307 q307
  cases e307
  replace p307 := eq_true p307
  replace q307 := eq_true q307
  have p308 : 0 ≤ (x5_1 : Int) := of_decide_eq_true (by first | (with_reducible assumption) | assumption)
  have q308 : x5_1 < (l0.length : Int) := of_decide_eq_true (by first | (with_reducible assumption) | assumption)
  obtain ⟨ad308, e308, hx308_0⟩ := Kd.at_int HR0.out x5_1 p308 q308
  obtain rfl : ad306 = ad308 := (by injection e308)
  replace p308 := eq_true p308
  replace q308 := eq_true q308
  have p309 : 0 ≤ (x5_1 : Int) := of_decide_eq_true (by first | (with_reducible assumption) | assumption)
  have q309 : x5_1 < (l1.length : Int) := of_decide_eq_true (by first | (with_reducible assumption) | assumption)
  obtain ⟨ad309, e309, hx309_0⟩ := Kd.at_int HR1.out x5_1 p309 q309
  obtain rfl : ad307 = ad309 := (by injection e309)
  replace p309 := eq_true p309
  replace q309 := eq_true q309
  go_wp2
  repeat (go_quiet (fail); try go_wp2)
  go_ret
  exact ⟨by first | rfl | (simp; done) | (simp [*]; done), by repeat (first | exact Drawn0.refl _ | apply Drawn0.step)⟩

end Go.Proofs.Ytlbljdjbcbgnlaa.PX
namespace Go.Proofs.Ytlbljdjbcbgnlaa.PX
open Go.RowKit Go.Proofs.YtlbljdjbcbgnlaaW.PrintWords Go.Proofs.YtlbljdjbcbgnlaaW.PrintLast Go.Proofs.YtlbljdjbcbgnlaaW.PrintMore
attribute [local go_sem] max2_int min2_int max_two min_two max_three min_three max_four min_four   -- for this text's walks alone
set_option linter.unusedVariables false
set_option linter.unusedSimpArgs false

-- the contract of function 46 ((maskwright/maskref4.Dec).Plus): written by hand
/-! ### maskref4_Dec_Plus: function 46 -/
mutual
def plusP.l0 : Nat → List Int → Int → Int → Bool → List Int → Bool → List Int → Option (Bool × List Int)
 | 0, _, _, _, _, _, _, _ => none
 | k + 1, x5, x6, x7, x362000, x362001, x363000, x363001 => if x7 < (x362001.length : Int) then (plusP.j1 k x5 x6 x7 true x362000 x362001 x363000 x363001) else (if x7 < (x363001.length : Int) then (plusP.j1 k x5 x6 x7 true x362000 x362001 x363000 x363001) else (plusP.j1 k x5 x6 x7 (decide (x6 > 0)) x362000 x362001 x363000 x363001))
def plusP.j1 : Nat → List Int → Int → Int → Bool → Bool → List Int → Bool → List Int → Option (Bool × List Int)
 | 0, _, _, _, _, _, _, _, _ => none
 | k + 1, x5, x6, x7, x32, x362000, x362001, x363000, x363001 => if x32 = true then (if x7 < (x362001.length : Int) then (if 0 ≤ x7 then (if x7 < (x363001.length : Int) then (if x5.length < 17592186044416 then (plusP.l0 k (x5 ++ [Int.tmod (wrap64 ((wrap64 (x6 + (rd x362001 x7))) + (rd x363001 x7))) 10]) (wrap64 (Int.tdiv (wrap64 ((wrap64 (x6 + (rd x362001 x7))) + (rd x363001 x7))) 10)) (wrap64 (x7 + 1)) x362000 x362001 x363000 x363001) else (none)) else (if x5.length < 17592186044416 then (plusP.l0 k (x5 ++ [Int.tmod (wrap64 (x6 + (rd x362001 x7))) 10]) (wrap64 (Int.tdiv (wrap64 (x6 + (rd x362001 x7))) 10)) (wrap64 (x7 + 1)) x362000 x362001 x363000 x363001) else (none))) else (none)) else (if x7 < (x363001.length : Int) then (if 0 ≤ x7 then (if x5.length < 17592186044416 then (plusP.l0 k (x5 ++ [Int.tmod (wrap64 (x6 + (rd x363001 x7))) 10]) (wrap64 (Int.tdiv (wrap64 (x6 + (rd x363001 x7))) 10)) (wrap64 (x7 + 1)) x362000 x362001 x363000 x363001) else (none)) else (none)) else (if x5.length < 17592186044416 then (plusP.l0 k (x5 ++ [Int.tmod x6 10]) (wrap64 (Int.tdiv x6 10)) (wrap64 (x7 + 1)) x362000 x362001 x363000 x363001) else (none)))) else ((maskref4_trim.f x362000 x5).bind fun bt364 => (some (bt364.1, bt364.2)))
def plusP.l1 : Nat → List Int → Int → List Int → Int → Int → Bool → List Int → Bool → List Int → Option (Bool × List Int)
 | 0, _, _, _, _, _, _, _, _, _ => none
 | k + 1, x8, x9, x78, x79, x80, x362000, x362001, x363000, x363001 => if x80 < x79 then (if 0 ≤ x80 then (if x80 < (x78.length : Int) then (if x80 < (x363001.length : Int) then (if (wrap64 ((wrap64 ((rd x78 x80) - x9)) - (rd x363001 x80))) < 0 then (if x8.length < 17592186044416 then (plusP.l1 k (x8 ++ [wrap64 ((wrap64 ((wrap64 ((rd x78 x80) - x9)) - (rd x363001 x80))) + 10)]) 1 x78 x79 (wrap64 (x80 + 1)) x362000 x362001 x363000 x363001) else (none)) else (if x8.length < 17592186044416 then (plusP.l1 k (x8 ++ [wrap64 ((wrap64 ((rd x78 x80) - x9)) - (rd x363001 x80))]) 0 x78 x79 (wrap64 (x80 + 1)) x362000 x362001 x363000 x363001) else (none))) else (if (wrap64 ((rd x78 x80) - x9)) < 0 then (if x8.length < 17592186044416 then (plusP.l1 k (x8 ++ [wrap64 ((wrap64 ((rd x78 x80) - x9)) + 10)]) 1 x78 x79 (wrap64 (x80 + 1)) x362000 x362001 x363000 x363001) else (none)) else (if x8.length < 17592186044416 then (plusP.l1 k (x8 ++ [wrap64 ((rd x78 x80) - x9)]) 0 x78 x79 (wrap64 (x80 + 1)) x362000 x362001 x363000 x363001) else (none)))) else (none)) else (none)) else ((maskref4_trim.f x362000 x8).bind fun bt383 => (some (bt383.1, bt383.2)))
end
theorem plusP.mono_l : ∀ k, (∀ y0 y1 y2 y3 y4 y5 y6, LeO (plusP.l0 k y0 y1 y2 y3 y4 y5 y6) (plusP.l0 (k + 1) y0 y1 y2 y3 y4 y5 y6)) ∧ (∀ y0 y1 y2 y3 y4 y5 y6 y7, LeO (plusP.j1 k y0 y1 y2 y3 y4 y5 y6 y7) (plusP.j1 (k + 1) y0 y1 y2 y3 y4 y5 y6 y7)) ∧ (∀ y0 y1 y2 y3 y4 y5 y6 y7 y8, LeO (plusP.l1 k y0 y1 y2 y3 y4 y5 y6 y7 y8) (plusP.l1 (k + 1) y0 y1 y2 y3 y4 y5 y6 y7 y8))
 | 0 => ⟨fun _ _ _ _ _ _ _ r h => by simp [plusP.l0] at h, fun _ _ _ _ _ _ _ _ r h => by simp [plusP.j1] at h, fun _ _ _ _ _ _ _ _ _ r h => by simp [plusP.l1] at h⟩
 | k + 1 => by
  obtain ⟨ih0, ih1, ih2⟩ := plusP.mono_l k
  refine ⟨?_, ?_, ?_⟩
  · intro y0 y1 y2 y3 y4 y5 y6
    unfold plusP.l0
    repeat' first
    | (with_reducible exact ih1 _ _ _ _ _ _ _ _)
    | (with_reducible exact LeO.refl _)
    | (with_reducible exact LeO.none _)
    | (with_reducible refine LeO.ite ?_ ?_)
    | (with_reducible refine LeO.bind ?_ (fun _ => ?_))
  · intro y0 y1 y2 y3 y4 y5 y6 y7
    unfold plusP.j1
    repeat' first
    | (with_reducible exact ih0 _ _ _ _ _ _ _)
    | (with_reducible exact LeO.refl _)
    | (with_reducible exact LeO.none _)
    | (with_reducible refine LeO.ite ?_ ?_)
    | (with_reducible refine LeO.bind ?_ (fun _ => ?_))
  · intro y0 y1 y2 y3 y4 y5 y6 y7 y8
    unfold plusP.l1
    repeat' first
    | (with_reducible exact ih2 _ _ _ _ _ _ _ _ _)
    | (with_reducible exact LeO.refl _)
    | (with_reducible exact LeO.none _)
    | (with_reducible refine LeO.ite ?_ ?_)
    | (with_reducible refine LeO.bind ?_ (fun _ => ?_))
set_option maxHeartbeats 8000000 in
set_option maxRecDepth 100000 in
theorem plusP.same (k : Nat) (a0_0 : Bool) (A0_1 : Option Addr) (c0_1 : Nat) (l0_1 : List Int) (a1_0 : Bool) (A1_1 : Option Addr) (c1_1 : Nat) (l1_1 : List Int) (r1 : Bool) (r2 : List Int) (w : World) (hr0_1 : Kd.C (Kd.int .i64) w A0_1 l0_1.length l0_1) (hc0_1 : l0_1.length ≤ c0_1) (hr1_1 : Kd.C (Kd.int .i64) w A1_1 l1_1.length l1_1) (hc1_1 : l1_1.length ≤ c1_1) (c3 : (a0_0 == a1_0) = true) (H : plusP.l0 k ([] : List Int) 0 0 a0_0 l0_1 a1_0 l1_1 = some (r1, r2)) :
 Calls Try.prog 46 #[.agg #[.bool a0_0, .slice A0_1 l0_1.length c0_1], .agg #[.bool a1_0, .slice A1_1 l1_1.length c1_1]] w fun e w' => ∃ v1_ : Value, e = .returned (.agg #[.bool r1, v1_]) ∧ Kd.V (Kd.int .i64) 3 w' w.heap.size (fun k_ => (w.heap.size ≤ k_)) v1_ r2 ∧ Below w.heap.size w w' := by
 have hu36 := Try.underlying36
 have HR0_1 := Aside0.mk hr0_1
 have HC0_1 := Aside0.mk hc0_1
 clear hr0_1 hc0_1
 have HR1_1 := Aside0.mk hr1_1
 have HC1_1 := Aside0.mk hc1_1
 clear hr1_1 hc1_1
 have HB := Aside0.mk (Below.refl w.heap.size w)
 have c3b0 : (a0_0 == a1_0) = true := c3
 (try (have c3b1 : decide (a0_0 = a1_0) = true := by simpa using c3))
 (try (have c3b2 : (a0_0 == a1_0) = true := by simpa using c3))
 clear c3
 have H' := Aside0.mk H
 clear H
 go_enter Try.func46, Try.ntmps46
 go_wp2_with (first | ((with_reducible refine gate_dst (N := 2) rfl ?_); (try (refine gate_guard (by rfl) ?_; dsimp only)); refine box_event ?hg (N := 2) ?hd (cs := #[.bool a0_0, .slice A0_1 l0_1.length c0_1]) (t := 36) ?hr ?_; (case hd => rfl); (case hg => rfl); (case hr => first | (go_simp; done) | (go_simp; rfl)); intro gb361 hg w4 hbox hb; have BK361 := Aside0.mk (hbox); have GW361 := Aside0.mk (ge (w := w) hg); have GE361 := Aside0.mk (ge (w := w) hg); replace HB := Aside0.mk (below_step bl hb); clear hb hbox hg) | ((with_reducible refine gate_dst (N := 3) rfl ?_); (try (refine gate_guard (by rfl) ?_; dsimp only)); refine box_event ?hg (N := 3) ?hd (cs := #[.bool a1_0, .slice A1_1 l1_1.length c1_1]) (t := 36) ?hr ?_; (case hd => rfl); (case hg => rfl); (case hr => first | (go_simp; done) | (go_simp; rfl)); intro gb362 hg w5 hbox hb; have BK362 := Aside0.mk (hbox); have GW362 := Aside0.mk (ge (w := w) hg); have GE362 := Aside0.mk (ge (w := w) hg); replace HB := Aside0.mk (below_step bl hb); have NB361_362 := Aside0.mk (nl hg (bk BK361.out)); have NB362_361 := Aside0.mk (ng hg (bk BK361.out)); replace BK361 := Aside0.mk (bb BK361.out hb); clear hb hbox hg) | ((with_reducible refine gate_dst (N := 4) rfl ?_); (try (refine gate_guard (by rfl) ?_; dsimp only)); refine box_event ?hg (N := 4) ?hd (cs := #[.bool false, .slice none 0 0]) (t := 36) ?hr ?_; (case hd => rfl); (case hg => rfl); (case hr => first | (go_simp; done) | (go_simp; rfl)); intro gb363 hg w6 hbox hb; have BK363 := Aside0.mk (hbox); have GW363 := Aside0.mk (ge (w := w) hg); have GE363 := Aside0.mk (ge (w := w) hg); replace HB := Aside0.mk (below_step bl hb); have NB361_363 := Aside0.mk (nl hg (bk BK361.out)); have NB363_361 := Aside0.mk (ng hg (bk BK361.out)); replace BK361 := Aside0.mk (bb BK361.out hb); have NB362_363 := Aside0.mk (nl hg (bk BK362.out)); have NB363_362 := Aside0.mk (ng hg (bk BK362.out)); replace BK362 := Aside0.mk (bb BK362.out hb); clear hb hbox hg; have hnb7 := NB361_362.out; have hnc7 := NB362_361.out; have hnb8 := NB361_363.out; have hnc8 := NB363_361.out; obtain ⟨hcz9_0, hcz9_1, hfz9_0, hfz9_1⟩ := bz2 BK361.out; have hnb10 := NB362_363.out; have hnc10 := NB363_362.out; obtain ⟨hcz11_0, hcz11_1, hfz11_0, hfz11_1⟩ := bz2 BK362.out))
 go_loopg [5, 6, 7] k (fun kq v5 v6 v7 w' => ∃ (x5_1 : List Int) (x6_1 : Int) (x7_1 : Int), v6 = .int .i64 x6_1 ∧ v7 = .int .i64 x7_1 ∧ Aside0 (plusP.l0 kq x5_1 x6_1 x7_1 a0_0 l0_1 a1_0 l1_1 = some (r1, r2)) ∧ Aside0 (kq ≤ k) ∧ Aside0 (Kd.R (Kd.int .i64) 3 w' w.heap.size (fun k_ => (w.heap.size ≤ k_)) v5 x5_1) ∧ Aside0 (w'.heap[gb361]? = some (.cells #[.bool a0_0, (.slice A0_1 l0_1.length c0_1)] 36 (0, 0))) ∧ Aside0 (w'.heap[gb362]? = some (.cells #[.bool a1_0, (.slice A1_1 l1_1.length c1_1)] 36 (0, 0))) ∧ Aside0 (w'.heap[gb363]? = some (.cells #[.bool false, (.slice none 0 0)] 36 (0, 0))) ∧ Aside0 (Below w.heap.size w w'))
 case atStart => exact ⟨(([] : List Int)), (0), (0), (by first | rfl | (simp; done) | (simp [*]; done)), (by first | rfl | (simp; done) | (simp [*]; done)), H', ⟨Nat.le_refl _⟩, ⟨by first | exact Kd.R_nil _ _ _ _ _ | exact Kd.N_nil _ _ _ _ _ | exact Kd.V_nil _ _ _ _ _ | exact Kd.Q_nil _ _ _ _ _ | exact Kd.S_nil _ _ _ _ _⟩, ⟨bk BK361.out⟩, ⟨bk BK362.out⟩, ⟨bk BK363.out⟩, ⟨bl⟩⟩
 clear H'
 clear c3b0 c3b1 c3b2 hcz11_0 hcz11_1 hcz9_0 hcz9_1 hfz11_0 hfz11_1 hfz9_0 hfz9_1
 obtain ⟨x5_1, x6_1, x7_1, rfl, rfl, HA, HK1, HO_5, BK361, BK362, BK363, HB⟩ := hrel
 cases gk with
 | zero => exact absurd HA.out (by simp [plusP.l0])
 | succ k1 =>
  have H := HA.out
  clear HA
  simp only [plusP.l0] at H
  have HC12 := Aside0.mk H
  clear H
  go_upto_region 5 with (fail)
  go_cut [32] (fun v32 wc => ∃ (kq : Nat) (x32_11 : Bool), v32 = .bool x32_11 ∧ Aside0 (plusP.j1 kq x5_1 x6_1 x7_1 x32_11 a0_0 l0_1 a1_0 l1_1 = some (r1, r2)) ∧ Aside0 (kq ≤ k1) ∧ Aside0 (Kd.R (Kd.int .i64) 3 wc w.heap.size (fun k_ => (w.heap.size ≤ k_)) u5 x5_1) ∧ Aside0 (wc.heap[gb361]? = some (.cells #[.bool a0_0, (.slice A0_1 l0_1.length c0_1)] 36 (0, 0))) ∧ Aside0 (wc.heap[gb362]? = some (.cells #[.bool a1_0, (.slice A1_1 l1_1.length c1_1)] 36 (0, 0))) ∧ Aside0 (wc.heap[gb363]? = some (.cells #[.bool false, (.slice none 0 0)] 36 (0, 0))) ∧ Aside0 (Below w.heap.size w wc))
  case first =>
   have H := HC12.out
   clear HC12
   by_cases c13 : x7_1 < (l0_1.length : Int)
   · rw [if_pos c13] at H
     have c13b0 : decide (x7_1 < (l0_1.length : Int)) = true := decide_eq_true c13
     clear c13
     (first | rw [c13b0] | (simp only [i64_w, i32_w]; rw [c13b0]) | skip)
     have H' := Aside0.mk H
     clear H
     have hnb14 := NB361_362.out
     have hnc14 := NB362_361.out
     have hnb15 := NB361_363.out
     have hnc15 := NB363_361.out
     obtain ⟨hcz16_0, hcz16_1, hfz16_0, hfz16_1⟩ := bz2 BK361.out
     go_wp2
     go_meet
     case rel => exact ⟨_, (true), (by first | rfl | (simp; done) | (simp [*]; done)), H', ⟨by have := HK1.out; first | omega | exact Nat.le_refl _⟩, ⟨by (with_reducible repeat (first | apply Kd.R_alloc | apply Kd.R_drewN | apply Kd.R_drew)); exact HO_5.out⟩, ⟨bk BK361.out⟩, ⟨bk BK362.out⟩, ⟨bk BK363.out⟩, ⟨bl⟩⟩
   rw [if_neg c13] at H
   have c13b0 : decide (x7_1 < (l0_1.length : Int)) = false := decide_eq_false c13
   clear c13
   (first | rw [c13b0] | (simp only [i64_w, i32_w]; rw [c13b0]) | skip)
   by_cases c17 : x7_1 < (l1_1.length : Int)
   · rw [if_pos c17] at H
     have c17b0 : decide (x7_1 < (l1_1.length : Int)) = true := decide_eq_true c17
     clear c17
     have H' := Aside0.mk H
     clear H
     have hnb18 := NB361_362.out
     have hnc18 := NB362_361.out
     have hnb19 := NB361_363.out
     have hnc19 := NB363_361.out
     obtain ⟨hcz20_0, hcz20_1, hfz20_0, hfz20_1⟩ := bz2 BK361.out
     have hnb21 := NB362_363.out
     have hnc21 := NB363_362.out
     obtain ⟨hcz22_0, hcz22_1, hfz22_0, hfz22_1⟩ := bz2 BK362.out
     go_wp2
     go_meet
     case rel => exact ⟨_, (true), (by first | rfl | (simp; done) | (simp [*]; done)), H', ⟨by have := HK1.out; first | omega | exact Nat.le_refl _⟩, ⟨by (with_reducible repeat (first | apply Kd.R_alloc | apply Kd.R_drewN | apply Kd.R_drew)); exact HO_5.out⟩, ⟨bk BK361.out⟩, ⟨bk BK362.out⟩, ⟨bk BK363.out⟩, ⟨bl⟩⟩
   rw [if_neg c17] at H
   have c17b0 : decide (x7_1 < (l1_1.length : Int)) = false := decide_eq_false c17
   clear c17
   have H' := Aside0.mk H
   clear H
   have hnb23 := NB361_362.out
   have hnc23 := NB362_361.out
   have hnb24 := NB361_363.out
   have hnc24 := NB363_361.out
   obtain ⟨hcz25_0, hcz25_1, hfz25_0, hfz25_1⟩ := bz2 BK361.out
   have hnb26 := NB362_363.out
   have hnc26 := NB363_362.out
   obtain ⟨hcz27_0, hcz27_1, hfz27_0, hfz27_1⟩ := bz2 BK362.out
   go_wp2
   go_meet
   case rel => exact ⟨_, (decide (x6_1 > 0)), (by first | rfl | (simp; done) | (simp [*]; done)), H', ⟨by have := HK1.out; first | omega | exact Nat.le_refl _⟩, ⟨by (with_reducible repeat (first | apply Kd.R_alloc | apply Kd.R_drewN | apply Kd.R_drew)); exact HO_5.out⟩, ⟨bk BK361.out⟩, ⟨bk BK362.out⟩, ⟨bk BK363.out⟩, ⟨bl⟩⟩
  clear HC12
  obtain ⟨kq, x32_11, rfl, HA, HJ11, HO_5, BK361, BK362, BK363, HB⟩ := hcut
  cases kq with
  | zero => exact absurd HA.out (by simp [plusP.j1])
  | succ kj11 =>
   have H := HA.out
   clear HA
   simp only [plusP.j1] at H
   by_cases c28 : x32_11 = true
   rotate_left
   · replace c28 := Bool.eq_false_iff.mpr c28
     subst c28
     have H1 : ((maskref4_trim.f a0_0 x5_1).bind fun bt364 => (some (bt364.1, bt364.2))) = some (r1, r2) := by rw [if_neg (show ¬ (false = true) by decide)] at H; exact H
     clear H
     have H := H1
     clear H1
     replace H := Option.bind_eq_some_iff.mp H
     obtain ⟨⟨t364, t365⟩, A620, H⟩ := H
     replace H : (some (t364, t365)) = some (r1, r2) := H
     have A62 := Aside0.mk A620
     clear A620
     simp only [Option.some.injEq, Prod.mk.injEq] at H
     obtain ⟨rfl, rfl⟩ := H
     have hnb63 := NB361_362.out
     have hnc63 := NB362_361.out
     have hnb64 := NB361_363.out
     have hnc64 := NB363_361.out
     obtain ⟨hcz65_0, hcz65_1, hfz65_0, hfz65_1⟩ := bz2 BK361.out
     obtain ⟨Ao66, co66, eo66⟩ := Kd.R_slice HO_5.out
     subst eo66
     go_wp2_with ((with_reducible refine gate_callee (f := 66) rfl ?_); refine goesL_ (some 69) rfl rfl Try.func66 (by kernel_rfl) rfl #[.bool a0_0, .slice Ao66 x5_1.length co66] rfl (by (try simp only [List.map_toArray, List.map_cons, List.map_nil]); first | done | rfl | (simp only [List.length_drop, List.length_take]; rfl)) ?_; (with_reducible refine (maskref4_trim.calls a0_0 (fun k_ => some k_ = (.slice Ao66 x5_1.length co66 : Value).ownBlock) _ _ x5_1 t364 t365 _ ?side1 A62.out).mono ?_); (case side1 => exact Kd.R_V (Kd.R_tight rfl (Kd.R_types (Kd.R_types (Kd.R_types (HO_5.out) BK361.out (by decide)) BK362.out (by decide)) BK363.out (by decide)))); rintro e w67 ⟨v366, rfl, ho0, hb⟩; refine ⟨_, rfl, ?_⟩; have HO367 := Aside0.mk (Kd.V_lower (Kd.V_mono (ok' := fun k_ => (w.heap.size ≤ k_) ∧ k_ ≠ gb361 ∧ k_ ≠ gb362 ∧ k_ ≠ gb363) ho0 (fun k_ hk_ => ⟨Or.elim hk_ (fun hs_ => ((Kd.R_types (Kd.R_types (Kd.R_types (HO_5.out) BK361.out (by decide)) BK362.out (by decide)) BK363.out (by decide)).1 k_ hs_.symm).1.1.1) (fun hn_ => (Nat.le_trans (below_size bl) hn_)), Or.elim hk_ (fun hs_ => ((Kd.R_types (Kd.R_types (Kd.R_types (HO_5.out) BK361.out (by decide)) BK362.out (by decide)) BK363.out (by decide)).1 k_ hs_.symm).1.1.2) (fun hn_ => (Kd.freshB (g := gb361) (o := .cells #[.bool a0_0, .slice A0_1 l0_1.length c0_1] 36 (0, 0)) (bk BK361.out) k_ hn_)), Or.elim hk_ (fun hs_ => ((Kd.R_types (Kd.R_types (Kd.R_types (HO_5.out) BK361.out (by decide)) BK362.out (by decide)) BK363.out (by decide)).1 k_ hs_.symm).1.2) (fun hn_ => (Kd.freshB (g := gb362) (o := .cells #[.bool a1_0, .slice A1_1 l1_1.length c1_1] 36 (0, 0)) (bk BK362.out) k_ hn_)), Or.elim hk_ (fun hs_ => ((Kd.R_types (Kd.R_types (Kd.R_types (HO_5.out) BK361.out (by decide)) BK362.out (by decide)) BK363.out (by decide)).1 k_ hs_.symm).2) (fun hn_ => (Kd.freshB (g := gb363) (o := .cells #[.bool false, .slice none 0 0] 36 (0, 0)) (bk BK363.out) k_ hn_))⟩)) (below_size bl)); replace HO_5 := Aside0.mk (rb HO_5.out hb); replace BK361 := Aside0.mk (bb BK361.out hb); replace BK362 := Aside0.mk (bb BK362.out hb); replace BK363 := Aside0.mk (bb BK363.out hb); replace HB := Aside0.mk (below_step bl hb); (try clear hb); (try clear ho0); have hnb68 := NB363_362.out; have hnc68 := NB362_363.out; obtain ⟨hcz69_0, hcz69_1, hfz69_0, hfz69_1⟩ := bz2 BK363.out; obtain ⟨Ao70, co70, eo70⟩ := Kd.V_slice HO367.out; subst eo70)
     refine bodyPost_ret (results_cell_row rfl _ _ gb363 36 #[.bool t364, .slice Ao70 t365.length co70] (0, 0) _ rfl (by (with_reducible repeat (first | refine blk_drewN ?_ _ | refine blk_drew ?_ | refine blk_alloc ?_ _)); refine blk_put (cs := #[.bool t364, .slice none 0 0]) ?_ 1 _ rfl; (with_reducible repeat (first | refine blk_drewN ?_ _ | refine blk_drew ?_ | refine blk_alloc ?_ _)); refine blk_put (cs := #[.bool false, .slice none 0 0]) ?_ 0 _ rfl; (with_reducible repeat (first | refine blk_drewN ?_ _ | refine blk_drew ?_ | refine blk_alloc ?_ _)); exact BK363.out) Try.underlying36 rfl (by kernel_rfl)) rfl ?_
     exact ⟨_, by first | rfl | (simp [errW_none, errW_some] <;> rfl) | (simp [*, errW_none, errW_some] <;> rfl), by (with_reducible repeat (first | apply Kd.V_alloc | apply Kd.V_drewN | apply Kd.V_drew)); exact Kd.V_mono (Kd.V_far (p := ⟨gb363, 1, none⟩) (Kd.V_far (p := ⟨gb363, 0, none⟩) (Kd.V_mono HO367.out (fun k_ hk => (⟨hk, hk.2.2.2⟩ : _ ∧ k_ ≠ gb363))) (fun _ hk => hk.2) (.bool t364)) (fun _ hk => hk.2) (.slice Ao70 t365.length co70)) (fun _ hk => hk.1.1), bl⟩
   subst c28
   have H1 : (if x7_1 < (l0_1.length : Int) then (if 0 ≤ x7_1 then (if x7_1 < (l1_1.length : Int) then (if x5_1.length < 17592186044416 then (plusP.l0 kj11 (x5_1 ++ [Int.tmod (wrap64 ((wrap64 (x6_1 + (rd l0_1 x7_1))) + (rd l1_1 x7_1))) 10]) (wrap64 (Int.tdiv (wrap64 ((wrap64 (x6_1 + (rd l0_1 x7_1))) + (rd l1_1 x7_1))) 10)) (wrap64 (x7_1 + 1)) a0_0 l0_1 a1_0 l1_1) else (none)) else (if x5_1.length < 17592186044416 then (plusP.l0 kj11 (x5_1 ++ [Int.tmod (wrap64 (x6_1 + (rd l0_1 x7_1))) 10]) (wrap64 (Int.tdiv (wrap64 (x6_1 + (rd l0_1 x7_1))) 10)) (wrap64 (x7_1 + 1)) a0_0 l0_1 a1_0 l1_1) else (none))) else (none)) else (if x7_1 < (l1_1.length : Int) then (if 0 ≤ x7_1 then (if x5_1.length < 17592186044416 then (plusP.l0 kj11 (x5_1 ++ [Int.tmod (wrap64 (x6_1 + (rd l1_1 x7_1))) 10]) (wrap64 (Int.tdiv (wrap64 (x6_1 + (rd l1_1 x7_1))) 10)) (wrap64 (x7_1 + 1)) a0_0 l0_1 a1_0 l1_1) else (none)) else (none)) else (if x5_1.length < 17592186044416 then (plusP.l0 kj11 (x5_1 ++ [Int.tmod x6_1 10]) (wrap64 (Int.tdiv x6_1 10)) (wrap64 (x7_1 + 1)) a0_0 l0_1 a1_0 l1_1) else (none)))) = some (r1, r2) := by rw [if_pos rfl] at H; exact H
   clear H
   have H := H1
   clear H1
   by_cases c29 : x7_1 < (l0_1.length : Int)
   rotate_left
   · rw [if_neg c29] at H
     have c29b0 : decide (x7_1 < (l0_1.length : Int)) = false := decide_eq_false c29
     clear c29
     by_cases c46 : x7_1 < (l1_1.length : Int)
     rotate_left
     · rw [if_neg c46] at H
       have c46b0 : decide (x7_1 < (l1_1.length : Int)) = false := decide_eq_false c46
       clear c46
       by_cases c55 : x5_1.length < 17592186044416
       rotate_left
       · rw [if_neg c55] at H
         exact absurd H (by simp)
       rw [if_pos c55] at H
       have LMc55 := Aside0.mk c55
       clear c55
       obtain ⟨y380, hy380⟩ : ∃ y_ : List Int, y_ = (x5_1 ++ [Int.tmod x6_1 10]) := ⟨_, rfl⟩
       replace H : (plusP.l0 kj11 y380 (wrap64 (Int.tdiv x6_1 10)) (wrap64 (x7_1 + 1)) a0_0 l0_1 a1_0 l1_1) = some (r1, r2) := by first | (rw [hy380]; with_reducible exact H) | (have H2_ := (Option.bind_some _ _).symm.trans H; rw [hy380]; with_reducible exact H2_) | (have H2_ := (Option.bind_some _ _).symm.trans H; with_reducible exact H2_) | with_reducible exact H | (rw [hy380]; exact H) | exact H
       have Ny380 := Aside0.mk hy380
       clear hy380
       have H' := Aside0.mk H
       clear H
       have hnb56 := NB361_362.out
       have hnc56 := NB362_361.out
       have hnb57 := NB361_363.out
       have hnc57 := NB363_361.out
       obtain ⟨hcz58_0, hcz58_1, hfz58_0, hfz58_1⟩ := bz2 BK361.out
       have hnb59 := NB362_363.out
       have hnc59 := NB363_362.out
       obtain ⟨hcz60_0, hcz60_1, hfz60_0, hfz60_1⟩ := bz2 BK362.out
       go_wp2_with ((with_reducible refine gate_builtin (b := .append) (xs := #[.tmp 59, .tmp 62]) rfl ?_); (try (refine gate_guard (by rfl) ?_; dsimp only)); at_builtin; refine Kd.R_append (Kd.int .i64) (w0 := w) w.heap.size rfl (.tmp 59) (.tmp 62) 34 3 (.int .i64 0) 8 rfl Try.underlying34 info3 rfl (by decide) (by omega) u5 x5_1 (Int.tmod x6_1 10) [.int .i64 (Int.tmod x6_1 10)] (fun k_ => (w.heap.size ≤ k_)) (fun _ => False) rfl rfl ?aP (fun _ hk => hk.elim) ?aF ?aO ?aB ?aS ?aL ?_; (case aP => exact rfl); (case aB => exact bl); (case aF => exact (fun k_ hk => (Nat.le_trans (below_size bl) hk))); (case aO => exact (by (with_reducible repeat (first | apply Kd.R_alloc | apply Kd.R_drewN | apply Kd.R_drew)); exact HO_5.out)); (case aS => exact (below_size bl)); (case aL => have := LMc55.out; omega); intro v381 w61 ho hb hg hat; rw [← Ny380.out] at ho; replace BK361 := Aside0.mk (blk_grown (bk BK361.out) hg (Kd.R_ne HO_5.out BK361.out (by decide))); replace BK362 := Aside0.mk (blk_grown (bk BK362.out) hg (Kd.R_ne HO_5.out BK362.out (by decide))); replace BK363 := Aside0.mk (blk_grown (bk BK363.out) hg (Kd.R_ne HO_5.out BK363.out (by decide))); replace HB := Aside0.mk (hb); have HO382 := Aside0.mk (ho); clear HO_5; clear ho hb hg hat)
       go_roundg kj11
       case measure => have := HK1.out; have := HJ11.out; omega
       case rel => exact ⟨(y380), (wrap64 (Int.tdiv x6_1 10)), (wrap64 (x7_1 + 1)), (by first | rfl | (simp; done) | (simp [*]; done)), (by first | rfl | (simp; done) | (simp [*]; done)), H', ⟨by have := HK1.out; have := HJ11.out; omega⟩, ⟨by (with_reducible repeat (first | apply Kd.R_alloc | apply Kd.R_drewN | apply Kd.R_drew)); exact HO382.out⟩, ⟨bk BK361.out⟩, ⟨bk BK362.out⟩, ⟨bk BK363.out⟩, ⟨bl⟩⟩
     rw [if_pos c46] at H
     have c46b0 : decide (x7_1 < (l1_1.length : Int)) = true := decide_eq_true c46
     clear c46
     by_cases c47 : 0 ≤ x7_1
     rotate_left
     · rw [if_neg c47] at H
       exact absurd H (by simp)
     rw [if_pos c47] at H
     have c47b0 : decide (0 ≤ x7_1) = true := decide_eq_true c47
     clear c47
     by_cases c48 : x5_1.length < 17592186044416
     rotate_left
     · rw [if_neg c48] at H
       exact absurd H (by simp)
     rw [if_pos c48] at H
     have LMc48 := Aside0.mk c48
     clear c48
     obtain ⟨y377, hy377⟩ : ∃ y_ : List Int, y_ = (x5_1 ++ [Int.tmod (wrap64 (x6_1 + (rd l1_1 x7_1))) 10]) := ⟨_, rfl⟩
     replace H : (plusP.l0 kj11 y377 (wrap64 (Int.tdiv (wrap64 (x6_1 + (rd l1_1 x7_1))) 10)) (wrap64 (x7_1 + 1)) a0_0 l0_1 a1_0 l1_1) = some (r1, r2) := by first | (rw [hy377]; with_reducible exact H) | (have H2_ := (Option.bind_some _ _).symm.trans H; rw [hy377]; with_reducible exact H2_) | (have H2_ := (Option.bind_some _ _).symm.trans H; with_reducible exact H2_) | with_reducible exact H | (rw [hy377]; exact H) | exact H
     have Ny377 := Aside0.mk hy377
     clear hy377
     have H' := Aside0.mk H
     clear H
     have hnb49 := NB361_362.out
     have hnc49 := NB362_361.out
     have hnb50 := NB361_363.out
     have hnc50 := NB363_361.out
     obtain ⟨hcz51_0, hcz51_1, hfz51_0, hfz51_1⟩ := bz2 BK361.out
     have hnb52 := NB362_363.out
     have hnc52 := NB363_362.out
     obtain ⟨hcz53_0, hcz53_1, hfz53_0, hfz53_1⟩ := bz2 BK362.out
     have p376 : 0 ≤ (x7_1 : Int) := of_decide_eq_true (by first | (with_reducible assumption) | assumption)
     have q376 : x7_1 < (l1_1.length : Int) := of_decide_eq_true (by first | (with_reducible assumption) | assumption)
     obtain ⟨ad376, e376, hx376_0⟩ := Kd.at_int HR1_1.out x7_1 p376 q376
     cases e376
     replace hx376_0 := hc HB.out hx376_0
     replace p376 := eq_true p376
     replace q376 := eq_true q376
     go_wp2_with ((with_reducible refine gate_builtin (b := .append) (xs := #[.tmp 59, .tmp 62]) rfl ?_); (try (refine gate_guard (by rfl) ?_; dsimp only)); at_builtin; refine Kd.R_append (Kd.int .i64) (w0 := w) w.heap.size rfl (.tmp 59) (.tmp 62) 34 3 (.int .i64 0) 8 rfl Try.underlying34 info3 rfl (by decide) (by omega) u5 x5_1 (Int.tmod (wrap64 (x6_1 + (rd l1_1 x7_1))) 10) [.int .i64 (Int.tmod (wrap64 (x6_1 + (rd l1_1 x7_1))) 10)] (fun k_ => (w.heap.size ≤ k_)) (fun _ => False) rfl rfl ?aP (fun _ hk => hk.elim) ?aF ?aO ?aB ?aS ?aL ?_; (case aP => exact rfl); (case aB => exact bl); (case aF => exact (fun k_ hk => (Nat.le_trans (below_size bl) hk))); (case aO => exact (by (with_reducible repeat (first | apply Kd.R_alloc | apply Kd.R_drewN | apply Kd.R_drew)); exact HO_5.out)); (case aS => exact (below_size bl)); (case aL => have := LMc48.out; omega); intro v378 w54 ho hb hg hat; rw [← Ny377.out] at ho; replace BK361 := Aside0.mk (blk_grown (bk BK361.out) hg (Kd.R_ne HO_5.out BK361.out (by decide))); replace BK362 := Aside0.mk (blk_grown (bk BK362.out) hg (Kd.R_ne HO_5.out BK362.out (by decide))); replace BK363 := Aside0.mk (blk_grown (bk BK363.out) hg (Kd.R_ne HO_5.out BK363.out (by decide))); replace HB := Aside0.mk (hb); have HO379 := Aside0.mk (ho); clear HO_5; clear ho hb hg hat)
     go_roundg kj11
     case measure => have := HK1.out; have := HJ11.out; omega
     case rel => exact ⟨(y377), (wrap64 (Int.tdiv (wrap64 (x6_1 + (rd l1_1 x7_1))) 10)), (wrap64 (x7_1 + 1)), (by first | rfl | (simp; done) | (simp [*]; done)), (by first | rfl | (simp; done) | (simp [*]; done)), H', ⟨by have := HK1.out; have := HJ11.out; omega⟩, ⟨by (with_reducible repeat (first | apply Kd.R_alloc | apply Kd.R_drewN | apply Kd.R_drew)); exact HO379.out⟩, ⟨bk BK361.out⟩, ⟨bk BK362.out⟩, ⟨bk BK363.out⟩, ⟨bl⟩⟩
   rw [if_pos c29] at H
   have c29b0 : decide (x7_1 < (l0_1.length : Int)) = true := decide_eq_true c29
   clear c29
   by_cases c30 : 0 ≤ x7_1
   rotate_left
   · rw [if_neg c30] at H
     exact absurd H (by simp)
   rw [if_pos c30] at H
   have c30b0 : decide (0 ≤ x7_1) = true := decide_eq_true c30
   clear c30
   by_cases c31 : x7_1 < (l1_1.length : Int)
   rotate_left
   · rw [if_neg c31] at H
     have c31b0 : decide (x7_1 < (l1_1.length : Int)) = false := decide_eq_false c31
     clear c31
     by_cases c39 : x5_1.length < 17592186044416
     rotate_left
     · rw [if_neg c39] at H
       exact absurd H (by simp)
     rw [if_pos c39] at H
     have LMc39 := Aside0.mk c39
     clear c39
     obtain ⟨y373, hy373⟩ : ∃ y_ : List Int, y_ = (x5_1 ++ [Int.tmod (wrap64 (x6_1 + (rd l0_1 x7_1))) 10]) := ⟨_, rfl⟩
     replace H : (plusP.l0 kj11 y373 (wrap64 (Int.tdiv (wrap64 (x6_1 + (rd l0_1 x7_1))) 10)) (wrap64 (x7_1 + 1)) a0_0 l0_1 a1_0 l1_1) = some (r1, r2) := by first | (rw [hy373]; with_reducible exact H) | (have H2_ := (Option.bind_some _ _).symm.trans H; rw [hy373]; with_reducible exact H2_) | (have H2_ := (Option.bind_some _ _).symm.trans H; with_reducible exact H2_) | with_reducible exact H | (rw [hy373]; exact H) | exact H
     have Ny373 := Aside0.mk hy373
     clear hy373
     have H' := Aside0.mk H
     clear H
     have hnb40 := NB361_362.out
     have hnc40 := NB362_361.out
     have hnb41 := NB361_363.out
     have hnc41 := NB363_361.out
     obtain ⟨hcz42_0, hcz42_1, hfz42_0, hfz42_1⟩ := bz2 BK361.out
     have p368 : 0 ≤ (x7_1 : Int) := of_decide_eq_true (by first | (with_reducible assumption) | assumption)
     have q368 : x7_1 < (l0_1.length : Int) := of_decide_eq_true (by first | (with_reducible assumption) | assumption)
     obtain ⟨ad368, e368, hx368_0⟩ := Kd.at_int HR0_1.out x7_1 p368 q368
     cases e368
     replace hx368_0 := hc HB.out hx368_0
     replace p368 := eq_true p368
     replace q368 := eq_true q368
     have hnb43 := NB362_363.out
     have hnc43 := NB363_362.out
     obtain ⟨hcz44_0, hcz44_1, hfz44_0, hfz44_1⟩ := bz2 BK362.out
     go_wp2_with ((with_reducible refine gate_builtin (b := .append) (xs := #[.tmp 59, .tmp 62]) rfl ?_); (try (refine gate_guard (by rfl) ?_; dsimp only)); at_builtin; refine Kd.R_append (Kd.int .i64) (w0 := w) w.heap.size rfl (.tmp 59) (.tmp 62) 34 3 (.int .i64 0) 8 rfl Try.underlying34 info3 rfl (by decide) (by omega) u5 x5_1 (Int.tmod (wrap64 (x6_1 + (rd l0_1 x7_1))) 10) [.int .i64 (Int.tmod (wrap64 (x6_1 + (rd l0_1 x7_1))) 10)] (fun k_ => (w.heap.size ≤ k_)) (fun _ => False) rfl rfl ?aP (fun _ hk => hk.elim) ?aF ?aO ?aB ?aS ?aL ?_; (case aP => exact rfl); (case aB => exact bl); (case aF => exact (fun k_ hk => (Nat.le_trans (below_size bl) hk))); (case aO => exact (by (with_reducible repeat (first | apply Kd.R_alloc | apply Kd.R_drewN | apply Kd.R_drew)); exact HO_5.out)); (case aS => exact (below_size bl)); (case aL => have := LMc39.out; omega); intro v374 w45 ho hb hg hat; rw [← Ny373.out] at ho; replace BK361 := Aside0.mk (blk_grown (bk BK361.out) hg (Kd.R_ne HO_5.out BK361.out (by decide))); replace BK362 := Aside0.mk (blk_grown (bk BK362.out) hg (Kd.R_ne HO_5.out BK362.out (by decide))); replace BK363 := Aside0.mk (blk_grown (bk BK363.out) hg (Kd.R_ne HO_5.out BK363.out (by decide))); replace HB := Aside0.mk (hb); have HO375 := Aside0.mk (ho); clear HO_5; clear ho hb hg hat)
     go_roundg kj11
     case measure => have := HK1.out; have := HJ11.out; omega
     case rel => exact ⟨(y373), (wrap64 (Int.tdiv (wrap64 (x6_1 + (rd l0_1 x7_1))) 10)), (wrap64 (x7_1 + 1)), (by first | rfl | (simp; done) | (simp [*]; done)), (by first | rfl | (simp; done) | (simp [*]; done)), H', ⟨by have := HK1.out; have := HJ11.out; omega⟩, ⟨by (with_reducible repeat (first | apply Kd.R_alloc | apply Kd.R_drewN | apply Kd.R_drew)); exact HO375.out⟩, ⟨bk BK361.out⟩, ⟨bk BK362.out⟩, ⟨bk BK363.out⟩, ⟨bl⟩⟩
   rw [if_pos c31] at H
   have c31b0 : decide (x7_1 < (l1_1.length : Int)) = true := decide_eq_true c31
   clear c31
   by_cases c32 : x5_1.length < 17592186044416
   rotate_left
   · rw [if_neg c32] at H
     exact absurd H (by simp)
   rw [if_pos c32] at H
   have LMc32 := Aside0.mk c32
   clear c32
   obtain ⟨y370, hy370⟩ : ∃ y_ : List Int, y_ = (x5_1 ++ [Int.tmod (wrap64 ((wrap64 (x6_1 + (rd l0_1 x7_1))) + (rd l1_1 x7_1))) 10]) := ⟨_, rfl⟩
   replace H : (plusP.l0 kj11 y370 (wrap64 (Int.tdiv (wrap64 ((wrap64 (x6_1 + (rd l0_1 x7_1))) + (rd l1_1 x7_1))) 10)) (wrap64 (x7_1 + 1)) a0_0 l0_1 a1_0 l1_1) = some (r1, r2) := by first | (rw [hy370]; with_reducible exact H) | (have H2_ := (Option.bind_some _ _).symm.trans H; rw [hy370]; with_reducible exact H2_) | (have H2_ := (Option.bind_some _ _).symm.trans H; with_reducible exact H2_) | with_reducible exact H | (rw [hy370]; exact H) | exact H
   have Ny370 := Aside0.mk hy370
   clear hy370
   have H' := Aside0.mk H
   clear H
   have hnb33 := NB361_362.out
   have hnc33 := NB362_361.out
   have hnb34 := NB361_363.out
   have hnc34 := NB363_361.out
   obtain ⟨hcz35_0, hcz35_1, hfz35_0, hfz35_1⟩ := bz2 BK361.out
   have p368 : 0 ≤ (x7_1 : Int) := of_decide_eq_true (by first | (with_reducible assumption) | assumption)
   have q368 : x7_1 < (l0_1.length : Int) := of_decide_eq_true (by first | (with_reducible assumption) | assumption)
   obtain ⟨ad368, e368, hx368_0⟩ := Kd.at_int HR0_1.out x7_1 p368 q368
   cases e368
   replace hx368_0 := hc HB.out hx368_0
   replace p368 := eq_true p368
   replace q368 := eq_true q368
   have hnb36 := NB362_363.out
   have hnc36 := NB363_362.out
   obtain ⟨hcz37_0, hcz37_1, hfz37_0, hfz37_1⟩ := bz2 BK362.out
   have p369 : 0 ≤ (x7_1 : Int) := of_decide_eq_true (by first | (with_reducible assumption) | assumption)
   have q369 : x7_1 < (l1_1.length : Int) := of_decide_eq_true (by first | (with_reducible assumption) | assumption)
   obtain ⟨ad369, e369, hx369_0⟩ := Kd.at_int HR1_1.out x7_1 p369 q369
   cases e369
   replace hx369_0 := hc HB.out hx369_0
   replace p369 := eq_true p369
   replace q369 := eq_true q369
   go_wp2_with ((with_reducible refine gate_builtin (b := .append) (xs := #[.tmp 59, .tmp 62]) rfl ?_); (try (refine gate_guard (by rfl) ?_; dsimp only)); at_builtin; refine Kd.R_append (Kd.int .i64) (w0 := w) w.heap.size rfl (.tmp 59) (.tmp 62) 34 3 (.int .i64 0) 8 rfl Try.underlying34 info3 rfl (by decide) (by omega) u5 x5_1 (Int.tmod (wrap64 ((wrap64 (x6_1 + (rd l0_1 x7_1))) + (rd l1_1 x7_1))) 10) [.int .i64 (Int.tmod (wrap64 ((wrap64 (x6_1 + (rd l0_1 x7_1))) + (rd l1_1 x7_1))) 10)] (fun k_ => (w.heap.size ≤ k_)) (fun _ => False) rfl rfl ?aP (fun _ hk => hk.elim) ?aF ?aO ?aB ?aS ?aL ?_; (case aP => exact rfl); (case aB => exact bl); (case aF => exact (fun k_ hk => (Nat.le_trans (below_size bl) hk))); (case aO => exact (by (with_reducible repeat (first | apply Kd.R_alloc | apply Kd.R_drewN | apply Kd.R_drew)); exact HO_5.out)); (case aS => exact (below_size bl)); (case aL => have := LMc32.out; omega); intro v371 w38 ho hb hg hat; rw [← Ny370.out] at ho; replace BK361 := Aside0.mk (blk_grown (bk BK361.out) hg (Kd.R_ne HO_5.out BK361.out (by decide))); replace BK362 := Aside0.mk (blk_grown (bk BK362.out) hg (Kd.R_ne HO_5.out BK362.out (by decide))); replace BK363 := Aside0.mk (blk_grown (bk BK363.out) hg (Kd.R_ne HO_5.out BK363.out (by decide))); replace HB := Aside0.mk (hb); have HO372 := Aside0.mk (ho); clear HO_5; clear ho hb hg hat)
   go_roundg kj11
   case measure => have := HK1.out; have := HJ11.out; omega
   case rel => exact ⟨(y370), (wrap64 (Int.tdiv (wrap64 ((wrap64 (x6_1 + (rd l0_1 x7_1))) + (rd l1_1 x7_1))) 10)), (wrap64 (x7_1 + 1)), (by first | rfl | (simp; done) | (simp [*]; done)), (by first | rfl | (simp; done) | (simp [*]; done)), H', ⟨by have := HK1.out; have := HJ11.out; omega⟩, ⟨by (with_reducible repeat (first | apply Kd.R_alloc | apply Kd.R_drewN | apply Kd.R_drew)); exact HO372.out⟩, ⟨bk BK361.out⟩, ⟨bk BK362.out⟩, ⟨bk BK363.out⟩, ⟨bl⟩⟩
set_option maxHeartbeats 8000000 in
set_option maxRecDepth 100000 in
theorem plusP.diffA (k : Nat) (a0_0 : Bool) (A0_1 : Option Addr) (c0_1 : Nat) (l0_1 : List Int) (a1_0 : Bool) (A1_1 : Option Addr) (c1_1 : Nat) (l1_1 : List Int) (r1 : Bool) (r2 : List Int) (w : World) (hr0_1 : Kd.C (Kd.int .i64) w A0_1 l0_1.length l0_1) (hc0_1 : l0_1.length ≤ c0_1) (hr1_1 : Kd.C (Kd.int .i64) w A1_1 l1_1.length l1_1) (hc1_1 : l1_1.length ≤ c1_1) (c3 : ¬ (a0_0 == a1_0) = true) (hl : maskref4_less.f k l0_1 l1_1 = some false) (H : plusP.l1 k ([] : List Int) 0 l0_1 (l0_1.length : Int) 0 a0_0 l0_1 a1_0 l1_1 = some (r1, r2)) :
 Calls Try.prog 46 #[.agg #[.bool a0_0, .slice A0_1 l0_1.length c0_1], .agg #[.bool a1_0, .slice A1_1 l1_1.length c1_1]] w fun e w' => ∃ v1_ : Value, e = .returned (.agg #[.bool r1, v1_]) ∧ Kd.V (Kd.int .i64) 3 w' w.heap.size (fun k_ => (w.heap.size ≤ k_)) v1_ r2 ∧ Below w.heap.size w w' := by
 have hu36 := Try.underlying36
 have HR0_1 := Aside0.mk hr0_1
 have HC0_1 := Aside0.mk hc0_1
 clear hr0_1 hc0_1
 have HR1_1 := Aside0.mk hr1_1
 have HC1_1 := Aside0.mk hc1_1
 clear hr1_1 hc1_1
 have HB := Aside0.mk (Below.refl w.heap.size w)
 have c3s : (a1_0 == a0_0) = false := by cases a0_0 <;> cases a1_0 <;> simp_all
 have c3t : decide (a1_0 = a0_0) = false := by cases a0_0 <;> cases a1_0 <;> simp_all
 have c3b0 : (a0_0 == a1_0) = false := by simpa using c3
 (try (have c3b1 : decide (a0_0 = a1_0) = false := by simpa using c3))
 (try (have c3b2 : (a0_0 == a1_0) = false := by simpa using c3))
 (try (have c3b3 : ¬ (a0_0 = a1_0) := by simpa using c3))
 clear c3
 have H' := Aside0.mk H
 clear H
 go_enter Try.func46, Try.ntmps46
 go_wp2_with (first | ((with_reducible refine gate_dst (N := 2) rfl ?_); (try (refine gate_guard (by rfl) ?_; dsimp only)); refine box_event ?hg (N := 2) ?hd (cs := #[.bool a0_0, .slice A0_1 l0_1.length c0_1]) (t := 36) ?hr ?_; (case hd => rfl); (case hg => rfl); (case hr => first | (go_simp; done) | (go_simp; rfl)); intro gb361 hg w71 hbox hb; have BK361 := Aside0.mk (hbox); have GW361 := Aside0.mk (ge (w := w) hg); have GE361 := Aside0.mk (ge (w := w) hg); replace HB := Aside0.mk (below_step bl hb); clear hb hbox hg) | ((with_reducible refine gate_dst (N := 3) rfl ?_); (try (refine gate_guard (by rfl) ?_; dsimp only)); refine box_event ?hg (N := 3) ?hd (cs := #[.bool a1_0, .slice A1_1 l1_1.length c1_1]) (t := 36) ?hr ?_; (case hd => rfl); (case hg => rfl); (case hr => first | (go_simp; done) | (go_simp; rfl)); intro gb362 hg w72 hbox hb; have BK362 := Aside0.mk (hbox); have GW362 := Aside0.mk (ge (w := w) hg); have GE362 := Aside0.mk (ge (w := w) hg); replace HB := Aside0.mk (below_step bl hb); have NB361_362 := Aside0.mk (nl hg (bk BK361.out)); have NB362_361 := Aside0.mk (ng hg (bk BK361.out)); replace BK361 := Aside0.mk (bb BK361.out hb); clear hb hbox hg) | ((with_reducible refine gate_dst (N := 4) rfl ?_); (try (refine gate_guard (by rfl) ?_; dsimp only)); refine box_event ?hg (N := 4) ?hd (cs := #[.bool false, .slice none 0 0]) (t := 36) ?hr ?_; (case hd => rfl); (case hg => rfl); (case hr => first | (go_simp; done) | (go_simp; rfl)); intro gb363 hg w73 hbox hb; have BK363 := Aside0.mk (hbox); have GW363 := Aside0.mk (ge (w := w) hg); have GE363 := Aside0.mk (ge (w := w) hg); replace HB := Aside0.mk (below_step bl hb); have NB361_363 := Aside0.mk (nl hg (bk BK361.out)); have NB363_361 := Aside0.mk (ng hg (bk BK361.out)); replace BK361 := Aside0.mk (bb BK361.out hb); have NB362_363 := Aside0.mk (nl hg (bk BK362.out)); have NB363_362 := Aside0.mk (ng hg (bk BK362.out)); replace BK362 := Aside0.mk (bb BK362.out hb); clear hb hbox hg; have hnb74 := NB361_362.out; have hnc74 := NB362_361.out; have hnb75 := NB361_363.out; have hnc75 := NB363_361.out; obtain ⟨hcz76_0, hcz76_1, hfz76_0, hfz76_1⟩ := bz2 BK361.out; have hnb77 := NB362_363.out; have hnc77 := NB363_362.out; obtain ⟨hcz78_0, hcz78_1, hfz78_0, hfz78_1⟩ := bz2 BK362.out))
 have q0 : w73.cell? ⟨gb361, 0, none⟩ = some (.bool a0_0) := (blk_cell BK361.out 0).trans rfl
 have q1 : w73.cell? ⟨gb361, 1, none⟩ = some (.slice A0_1 l0_1.length c0_1) := (blk_cell BK361.out 1).trans rfl
 have q2 : w73.cell? ⟨gb362, 0, none⟩ = some (.bool a1_0) := (blk_cell BK362.out 0).trans rfl
 have q3 : w73.cell? ⟨gb362, 1, none⟩ = some (.slice A1_1 l1_1.length c1_1) := (blk_cell BK362.out 1).trans rfl
 go_wp2_with fail
 refine (maskref4_less.calls k A0_1 c0_1 l0_1 A1_1 c1_1 l1_1 false _ (Kd.C_below HR0_1.out HB.out) HC0_1.out (Kd.C_below HR1_1.out HB.out) HC1_1.out hl).mono ?_
 rintro e wl ⟨rfl, hwd⟩
 have hw := hwd.below
 clear hwd
 clear q0 q1 q2 q3
 replace BK361 := Aside0.mk (blk_below BK361.out hw)
 replace BK362 := Aside0.mk (blk_below BK362.out hw)
 replace BK363 := Aside0.mk (blk_below BK363.out hw)
 replace HB := Aside0.mk (below_step HB.out hw)
 clear hw
 go_upto_region 16 with (fail)
 have q1 : wl.cell? ⟨gb361, 1, none⟩ = some (.slice A0_1 l0_1.length c0_1) := (blk_cell BK361.out 1).trans rfl
 go_wp2_with fail
 clear q1
 go_loopg [8, 9, 80] k (fun kq v8 v9 v80 w' => ∃ (x8_1 : List Int) (x9_1 : Int) (x80_1 : Int), v9 = .int .i64 x9_1 ∧ v80 = .int .i64 x80_1 ∧ Aside0 (plusP.l1 kq x8_1 x9_1 l0_1 (l0_1.length : Int) x80_1 a0_0 l0_1 a1_0 l1_1 = some (r1, r2)) ∧ Aside0 (kq ≤ k) ∧ Aside0 (Kd.R (Kd.int .i64) 3 w' w.heap.size (fun k_ => (w.heap.size ≤ k_)) v8 x8_1) ∧ Aside0 (w'.heap[gb361]? = some (.cells #[.bool a0_0, (.slice A0_1 l0_1.length c0_1)] 36 (0, 0))) ∧ Aside0 (w'.heap[gb362]? = some (.cells #[.bool a1_0, (.slice A1_1 l1_1.length c1_1)] 36 (0, 0))) ∧ Aside0 (w'.heap[gb363]? = some (.cells #[.bool false, (.slice none 0 0)] 36 (0, 0))) ∧ Aside0 (Below w.heap.size w w'))
 case atStart => exact ⟨(([] : List Int)), (0), (0), (by first | rfl | (simp; done) | (simp [*]; done)), (by first | rfl | (simp; done) | (simp [*]; done)), H', ⟨Nat.le_refl _⟩, ⟨by first | exact Kd.R_nil _ _ _ _ _ | exact Kd.N_nil _ _ _ _ _ | exact Kd.V_nil _ _ _ _ _ | exact Kd.Q_nil _ _ _ _ _ | exact Kd.S_nil _ _ _ _ _⟩, ⟨bk BK361.out⟩, ⟨bk BK362.out⟩, ⟨bk BK363.out⟩, ⟨bl⟩⟩
 clear H'
 clear c3b0 c3b1 c3b2 hcz76_0 hcz76_1 hcz78_0 hcz78_1 hfz76_0 hfz76_1 hfz78_0 hfz78_1
 obtain ⟨x8_1, x9_1, x80_1, rfl, rfl, HA, HK1, HO_8, BK361, BK362, BK363, HB⟩ := hrel
 cases gk with
 | zero => exact absurd HA.out (by simp [plusP.l1])
 | succ k1 =>
  have H := HA.out
  clear HA
  simp only [plusP.l1] at H
  by_cases c79 : x80_1 < (l0_1.length : Int)
  rotate_left
  · rw [if_neg c79] at H
    have c79b0 : decide (x80_1 < (l0_1.length : Int)) = false := decide_eq_false c79
    clear c79
    replace H := Option.bind_eq_some_iff.mp H
    obtain ⟨⟨t383, t384⟩, A1050, H⟩ := H
    replace H : (some (t383, t384)) = some (r1, r2) := H
    have A105 := Aside0.mk A1050
    clear A1050
    simp only [Option.some.injEq, Prod.mk.injEq] at H
    obtain ⟨rfl, rfl⟩ := H
    have hnb106 := NB361_362.out
    have hnc106 := NB362_361.out
    have hnb107 := NB361_363.out
    have hnc107 := NB363_361.out
    obtain ⟨hcz108_0, hcz108_1, hfz108_0, hfz108_1⟩ := bz2 BK361.out
    obtain ⟨Ao109, co109, eo109⟩ := Kd.R_slice HO_8.out
    subst eo109
    go_wp2_with ((with_reducible refine gate_callee (f := 66) rfl ?_); refine goesL_ (some 112) rfl rfl Try.func66 (by kernel_rfl) rfl #[.bool a0_0, .slice Ao109 x8_1.length co109] rfl (by (try simp only [List.map_toArray, List.map_cons, List.map_nil]); first | done | rfl | (simp only [List.length_drop, List.length_take]; rfl)) ?_; (with_reducible refine (maskref4_trim.calls a0_0 (fun k_ => some k_ = (.slice Ao109 x8_1.length co109 : Value).ownBlock) _ _ x8_1 t383 t384 _ ?side1 A105.out).mono ?_); (case side1 => exact Kd.R_V (Kd.R_tight rfl (Kd.R_types (Kd.R_types (Kd.R_types (HO_8.out) BK361.out (by decide)) BK362.out (by decide)) BK363.out (by decide)))); rintro e w110 ⟨v385, rfl, ho0, hb⟩; refine ⟨_, rfl, ?_⟩; have HO386 := Aside0.mk (Kd.V_lower (Kd.V_mono (ok' := fun k_ => (w.heap.size ≤ k_) ∧ k_ ≠ gb361 ∧ k_ ≠ gb362 ∧ k_ ≠ gb363) ho0 (fun k_ hk_ => ⟨Or.elim hk_ (fun hs_ => ((Kd.R_types (Kd.R_types (Kd.R_types (HO_8.out) BK361.out (by decide)) BK362.out (by decide)) BK363.out (by decide)).1 k_ hs_.symm).1.1.1) (fun hn_ => (Nat.le_trans (below_size bl) hn_)), Or.elim hk_ (fun hs_ => ((Kd.R_types (Kd.R_types (Kd.R_types (HO_8.out) BK361.out (by decide)) BK362.out (by decide)) BK363.out (by decide)).1 k_ hs_.symm).1.1.2) (fun hn_ => (Kd.freshB (g := gb361) (o := .cells #[.bool a0_0, .slice A0_1 l0_1.length c0_1] 36 (0, 0)) (bk BK361.out) k_ hn_)), Or.elim hk_ (fun hs_ => ((Kd.R_types (Kd.R_types (Kd.R_types (HO_8.out) BK361.out (by decide)) BK362.out (by decide)) BK363.out (by decide)).1 k_ hs_.symm).1.2) (fun hn_ => (Kd.freshB (g := gb362) (o := .cells #[.bool a1_0, .slice A1_1 l1_1.length c1_1] 36 (0, 0)) (bk BK362.out) k_ hn_)), Or.elim hk_ (fun hs_ => ((Kd.R_types (Kd.R_types (Kd.R_types (HO_8.out) BK361.out (by decide)) BK362.out (by decide)) BK363.out (by decide)).1 k_ hs_.symm).2) (fun hn_ => (Kd.freshB (g := gb363) (o := .cells #[.bool false, .slice none 0 0] 36 (0, 0)) (bk BK363.out) k_ hn_))⟩)) (below_size bl)); replace HO_8 := Aside0.mk (rb HO_8.out hb); replace BK361 := Aside0.mk (bb BK361.out hb); replace BK362 := Aside0.mk (bb BK362.out hb); replace BK363 := Aside0.mk (bb BK363.out hb); replace HB := Aside0.mk (below_step bl hb); (try clear hb); (try clear ho0); have hnb111 := NB363_362.out; have hnc111 := NB362_363.out; obtain ⟨hcz112_0, hcz112_1, hfz112_0, hfz112_1⟩ := bz2 BK363.out; obtain ⟨Ao113, co113, eo113⟩ := Kd.V_slice HO386.out; subst eo113)
    refine bodyPost_ret (results_cell_row rfl _ _ gb363 36 #[.bool t383, .slice Ao113 t384.length co113] (0, 0) _ rfl (by (with_reducible repeat (first | refine blk_drewN ?_ _ | refine blk_drew ?_ | refine blk_alloc ?_ _)); refine blk_put (cs := #[.bool t383, .slice none 0 0]) ?_ 1 _ rfl; (with_reducible repeat (first | refine blk_drewN ?_ _ | refine blk_drew ?_ | refine blk_alloc ?_ _)); refine blk_put (cs := #[.bool false, .slice none 0 0]) ?_ 0 _ rfl; (with_reducible repeat (first | refine blk_drewN ?_ _ | refine blk_drew ?_ | refine blk_alloc ?_ _)); exact BK363.out) Try.underlying36 rfl (by kernel_rfl)) rfl ?_
    exact ⟨_, by first | rfl | (simp [errW_none, errW_some] <;> rfl) | (simp [*, errW_none, errW_some] <;> rfl), by (with_reducible repeat (first | apply Kd.V_alloc | apply Kd.V_drewN | apply Kd.V_drew)); exact Kd.V_mono (Kd.V_far (p := ⟨gb363, 1, none⟩) (Kd.V_far (p := ⟨gb363, 0, none⟩) (Kd.V_mono HO386.out (fun k_ hk => (⟨hk, hk.2.2.2⟩ : _ ∧ k_ ≠ gb363))) (fun _ hk => hk.2) (.bool t383)) (fun _ hk => hk.2) (.slice Ao113 t384.length co113)) (fun _ hk => hk.1.1), bl⟩
  rw [if_pos c79] at H
  have c79b0 : decide (x80_1 < (l0_1.length : Int)) = true := decide_eq_true c79
  clear c79
  by_cases c80 : 0 ≤ x80_1
  rotate_left
  · rw [if_neg c80] at H
    exact absurd H (by simp)
  rw [if_pos c80] at H
  have c80b0 : decide (0 ≤ x80_1) = true := decide_eq_true c80
  clear c80
  by_cases c81 : x80_1 < (l0_1.length : Int)
  rotate_left
  · rw [if_neg c81] at H
    exact absurd H (by simp)
  rw [if_pos c81] at H
  have c81b0 : decide (x80_1 < (l0_1.length : Int)) = true := decide_eq_true c81
  clear c81
  by_cases c82 : x80_1 < (l1_1.length : Int)
  rotate_left
  · rw [if_neg c82] at H
    have c82b0 : decide (x80_1 < (l1_1.length : Int)) = false := decide_eq_false c82
    clear c82
    by_cases c94 : (wrap64 ((rd l0_1 x80_1) - x9_1)) < 0
    · rw [if_pos c94] at H
      have c94b0 : decide ((wrap64 ((rd l0_1 x80_1) - x9_1)) < 0) = true := decide_eq_true c94
      clear c94
      by_cases c95 : x8_1.length < 17592186044416
      rotate_left
      · rw [if_neg c95] at H
        exact absurd H (by simp)
      rw [if_pos c95] at H
      have LMc95 := Aside0.mk c95
      clear c95
      obtain ⟨y395, hy395⟩ : ∃ y_ : List Int, y_ = (x8_1 ++ [wrap64 ((wrap64 ((rd l0_1 x80_1) - x9_1)) + 10)]) := ⟨_, rfl⟩
      replace H : (plusP.l1 k1 y395 1 l0_1 (l0_1.length : Int) (wrap64 (x80_1 + 1)) a0_0 l0_1 a1_0 l1_1) = some (r1, r2) := by first | (rw [hy395]; with_reducible exact H) | (have H2_ := (Option.bind_some _ _).symm.trans H; rw [hy395]; with_reducible exact H2_) | (have H2_ := (Option.bind_some _ _).symm.trans H; with_reducible exact H2_) | with_reducible exact H | (rw [hy395]; exact H) | exact H
      have Ny395 := Aside0.mk hy395
      clear hy395
      have H' := Aside0.mk H
      clear H
      have p387 : 0 ≤ (x80_1 : Int) := of_decide_eq_true (by first | (with_reducible assumption) | assumption)
      have q387 : x80_1 < (l0_1.length : Int) := of_decide_eq_true (by first | (with_reducible assumption) | assumption)
      obtain ⟨ad387, e387, hx387_0⟩ := Kd.at_int HR0_1.out x80_1 p387 q387
      cases e387
      replace hx387_0 := hc HB.out hx387_0
      replace p387 := eq_true p387
      replace q387 := eq_true q387
      have hnb96 := NB362_361.out
      have hnc96 := NB361_362.out
      have hnb97 := NB362_363.out
      have hnc97 := NB363_362.out
      obtain ⟨hcz98_0, hcz98_1, hfz98_0, hfz98_1⟩ := bz2 BK362.out
      go_wp2_with ((with_reducible refine gate_builtin (b := .append) (xs := #[.tmp 104, .tmp 106]) rfl ?_); (try (refine gate_guard (by rfl) ?_; dsimp only)); at_builtin; refine Kd.R_append (Kd.int .i64) (w0 := w) w.heap.size rfl (.tmp 104) (.tmp 106) 34 3 (.int .i64 0) 8 rfl Try.underlying34 info3 rfl (by decide) (by omega) u8 x8_1 (wrap64 ((wrap64 ((rd l0_1 x80_1) - x9_1)) + 10)) [.int .i64 (wrap64 ((wrap64 ((rd l0_1 x80_1) - x9_1)) + 10))] (fun k_ => (w.heap.size ≤ k_)) (fun _ => False) rfl rfl ?aP (fun _ hk => hk.elim) ?aF ?aO ?aB ?aS ?aL ?_; (case aP => exact rfl); (case aB => exact bl); (case aF => exact (fun k_ hk => (Nat.le_trans (below_size bl) hk))); (case aO => exact (by (with_reducible repeat (first | apply Kd.R_alloc | apply Kd.R_drewN | apply Kd.R_drew)); exact HO_8.out)); (case aS => exact (below_size bl)); (case aL => have := LMc95.out; omega); intro v396 w99 ho hb hg hat; rw [← Ny395.out] at ho; replace BK361 := Aside0.mk (blk_grown (bk BK361.out) hg (Kd.R_ne HO_8.out BK361.out (by decide))); replace BK362 := Aside0.mk (blk_grown (bk BK362.out) hg (Kd.R_ne HO_8.out BK362.out (by decide))); replace BK363 := Aside0.mk (blk_grown (bk BK363.out) hg (Kd.R_ne HO_8.out BK363.out (by decide))); replace HB := Aside0.mk (hb); have HO397 := Aside0.mk (ho); clear HO_8; clear ho hb hg hat)
      go_roundg k1
      case measure => have := HK1.out; omega
      case rel => exact ⟨(y395), (1), (wrap64 (x80_1 + 1)), (by first | rfl | (simp; done) | (simp [*]; done)), (by first | rfl | (simp; done) | (simp [*]; done)), H', ⟨by have := HK1.out; omega⟩, ⟨by (with_reducible repeat (first | apply Kd.R_alloc | apply Kd.R_drewN | apply Kd.R_drew)); exact HO397.out⟩, ⟨bk BK361.out⟩, ⟨bk BK362.out⟩, ⟨bk BK363.out⟩, ⟨bl⟩⟩
    rw [if_neg c94] at H
    have c94b0 : decide ((wrap64 ((rd l0_1 x80_1) - x9_1)) < 0) = false := decide_eq_false c94
    clear c94
    by_cases c100 : x8_1.length < 17592186044416
    rotate_left
    · rw [if_neg c100] at H
      exact absurd H (by simp)
    rw [if_pos c100] at H
    have LMc100 := Aside0.mk c100
    clear c100
    obtain ⟨y398, hy398⟩ : ∃ y_ : List Int, y_ = (x8_1 ++ [wrap64 ((rd l0_1 x80_1) - x9_1)]) := ⟨_, rfl⟩
    replace H : (plusP.l1 k1 y398 0 l0_1 (l0_1.length : Int) (wrap64 (x80_1 + 1)) a0_0 l0_1 a1_0 l1_1) = some (r1, r2) := by first | (rw [hy398]; with_reducible exact H) | (have H2_ := (Option.bind_some _ _).symm.trans H; rw [hy398]; with_reducible exact H2_) | (have H2_ := (Option.bind_some _ _).symm.trans H; with_reducible exact H2_) | with_reducible exact H | (rw [hy398]; exact H) | exact H
    have Ny398 := Aside0.mk hy398
    clear hy398
    have H' := Aside0.mk H
    clear H
    have p387 : 0 ≤ (x80_1 : Int) := of_decide_eq_true (by first | (with_reducible assumption) | assumption)
    have q387 : x80_1 < (l0_1.length : Int) := of_decide_eq_true (by first | (with_reducible assumption) | assumption)
    obtain ⟨ad387, e387, hx387_0⟩ := Kd.at_int HR0_1.out x80_1 p387 q387
    cases e387
    replace hx387_0 := hc HB.out hx387_0
    replace p387 := eq_true p387
    replace q387 := eq_true q387
    have hnb101 := NB362_361.out
    have hnc101 := NB361_362.out
    have hnb102 := NB362_363.out
    have hnc102 := NB363_362.out
    obtain ⟨hcz103_0, hcz103_1, hfz103_0, hfz103_1⟩ := bz2 BK362.out
    go_wp2_with ((with_reducible refine gate_builtin (b := .append) (xs := #[.tmp 104, .tmp 106]) rfl ?_); (try (refine gate_guard (by rfl) ?_; dsimp only)); at_builtin; refine Kd.R_append (Kd.int .i64) (w0 := w) w.heap.size rfl (.tmp 104) (.tmp 106) 34 3 (.int .i64 0) 8 rfl Try.underlying34 info3 rfl (by decide) (by omega) u8 x8_1 (wrap64 ((rd l0_1 x80_1) - x9_1)) [.int .i64 (wrap64 ((rd l0_1 x80_1) - x9_1))] (fun k_ => (w.heap.size ≤ k_)) (fun _ => False) rfl rfl ?aP (fun _ hk => hk.elim) ?aF ?aO ?aB ?aS ?aL ?_; (case aP => exact rfl); (case aB => exact bl); (case aF => exact (fun k_ hk => (Nat.le_trans (below_size bl) hk))); (case aO => exact (by (with_reducible repeat (first | apply Kd.R_alloc | apply Kd.R_drewN | apply Kd.R_drew)); exact HO_8.out)); (case aS => exact (below_size bl)); (case aL => have := LMc100.out; omega); intro v399 w104 ho hb hg hat; rw [← Ny398.out] at ho; replace BK361 := Aside0.mk (blk_grown (bk BK361.out) hg (Kd.R_ne HO_8.out BK361.out (by decide))); replace BK362 := Aside0.mk (blk_grown (bk BK362.out) hg (Kd.R_ne HO_8.out BK362.out (by decide))); replace BK363 := Aside0.mk (blk_grown (bk BK363.out) hg (Kd.R_ne HO_8.out BK363.out (by decide))); replace HB := Aside0.mk (hb); have HO400 := Aside0.mk (ho); clear HO_8; clear ho hb hg hat)
    go_roundg k1
    case measure => have := HK1.out; omega
    case rel => exact ⟨(y398), (0), (wrap64 (x80_1 + 1)), (by first | rfl | (simp; done) | (simp [*]; done)), (by first | rfl | (simp; done) | (simp [*]; done)), H', ⟨by have := HK1.out; omega⟩, ⟨by (with_reducible repeat (first | apply Kd.R_alloc | apply Kd.R_drewN | apply Kd.R_drew)); exact HO400.out⟩, ⟨bk BK361.out⟩, ⟨bk BK362.out⟩, ⟨bk BK363.out⟩, ⟨bl⟩⟩
  rw [if_pos c82] at H
  have c82b0 : decide (x80_1 < (l1_1.length : Int)) = true := decide_eq_true c82
  clear c82
  by_cases c83 : (wrap64 ((wrap64 ((rd l0_1 x80_1) - x9_1)) - (rd l1_1 x80_1))) < 0
  · rw [if_pos c83] at H
    have c83b0 : decide ((wrap64 ((wrap64 ((rd l0_1 x80_1) - x9_1)) - (rd l1_1 x80_1))) < 0) = true := decide_eq_true c83
    clear c83
    by_cases c84 : x8_1.length < 17592186044416
    rotate_left
    · rw [if_neg c84] at H
      exact absurd H (by simp)
    rw [if_pos c84] at H
    have LMc84 := Aside0.mk c84
    clear c84
    obtain ⟨y389, hy389⟩ : ∃ y_ : List Int, y_ = (x8_1 ++ [wrap64 ((wrap64 ((wrap64 ((rd l0_1 x80_1) - x9_1)) - (rd l1_1 x80_1))) + 10)]) := ⟨_, rfl⟩
    replace H : (plusP.l1 k1 y389 1 l0_1 (l0_1.length : Int) (wrap64 (x80_1 + 1)) a0_0 l0_1 a1_0 l1_1) = some (r1, r2) := by first | (rw [hy389]; with_reducible exact H) | (have H2_ := (Option.bind_some _ _).symm.trans H; rw [hy389]; with_reducible exact H2_) | (have H2_ := (Option.bind_some _ _).symm.trans H; with_reducible exact H2_) | with_reducible exact H | (rw [hy389]; exact H) | exact H
    have Ny389 := Aside0.mk hy389
    clear hy389
    have H' := Aside0.mk H
    clear H
    have p387 : 0 ≤ (x80_1 : Int) := of_decide_eq_true (by first | (with_reducible assumption) | assumption)
    have q387 : x80_1 < (l0_1.length : Int) := of_decide_eq_true (by first | (with_reducible assumption) | assumption)
    obtain ⟨ad387, e387, hx387_0⟩ := Kd.at_int HR0_1.out x80_1 p387 q387
    cases e387
    replace hx387_0 := hc HB.out hx387_0
    replace p387 := eq_true p387
    replace q387 := eq_true q387
    have hnb85 := NB362_361.out
    have hnc85 := NB361_362.out
    have hnb86 := NB362_363.out
    have hnc86 := NB363_362.out
    obtain ⟨hcz87_0, hcz87_1, hfz87_0, hfz87_1⟩ := bz2 BK362.out
    have p388 : 0 ≤ (x80_1 : Int) := of_decide_eq_true (by first | (with_reducible assumption) | assumption)
    have q388 : x80_1 < (l1_1.length : Int) := of_decide_eq_true (by first | (with_reducible assumption) | assumption)
    obtain ⟨ad388, e388, hx388_0⟩ := Kd.at_int HR1_1.out x80_1 p388 q388
    cases e388
    replace hx388_0 := hc HB.out hx388_0
    replace p388 := eq_true p388
    replace q388 := eq_true q388
    go_wp2_with ((with_reducible refine gate_builtin (b := .append) (xs := #[.tmp 104, .tmp 106]) rfl ?_); (try (refine gate_guard (by rfl) ?_; dsimp only)); at_builtin; refine Kd.R_append (Kd.int .i64) (w0 := w) w.heap.size rfl (.tmp 104) (.tmp 106) 34 3 (.int .i64 0) 8 rfl Try.underlying34 info3 rfl (by decide) (by omega) u8 x8_1 (wrap64 ((wrap64 ((wrap64 ((rd l0_1 x80_1) - x9_1)) - (rd l1_1 x80_1))) + 10)) [.int .i64 (wrap64 ((wrap64 ((wrap64 ((rd l0_1 x80_1) - x9_1)) - (rd l1_1 x80_1))) + 10))] (fun k_ => (w.heap.size ≤ k_)) (fun _ => False) rfl rfl ?aP (fun _ hk => hk.elim) ?aF ?aO ?aB ?aS ?aL ?_; (case aP => exact rfl); (case aB => exact bl); (case aF => exact (fun k_ hk => (Nat.le_trans (below_size bl) hk))); (case aO => exact (by (with_reducible repeat (first | apply Kd.R_alloc | apply Kd.R_drewN | apply Kd.R_drew)); exact HO_8.out)); (case aS => exact (below_size bl)); (case aL => have := LMc84.out; omega); intro v390 w88 ho hb hg hat; rw [← Ny389.out] at ho; replace BK361 := Aside0.mk (blk_grown (bk BK361.out) hg (Kd.R_ne HO_8.out BK361.out (by decide))); replace BK362 := Aside0.mk (blk_grown (bk BK362.out) hg (Kd.R_ne HO_8.out BK362.out (by decide))); replace BK363 := Aside0.mk (blk_grown (bk BK363.out) hg (Kd.R_ne HO_8.out BK363.out (by decide))); replace HB := Aside0.mk (hb); have HO391 := Aside0.mk (ho); clear HO_8; clear ho hb hg hat)
    go_roundg k1
    case measure => have := HK1.out; omega
    case rel => exact ⟨(y389), (1), (wrap64 (x80_1 + 1)), (by first | rfl | (simp; done) | (simp [*]; done)), (by first | rfl | (simp; done) | (simp [*]; done)), H', ⟨by have := HK1.out; omega⟩, ⟨by (with_reducible repeat (first | apply Kd.R_alloc | apply Kd.R_drewN | apply Kd.R_drew)); exact HO391.out⟩, ⟨bk BK361.out⟩, ⟨bk BK362.out⟩, ⟨bk BK363.out⟩, ⟨bl⟩⟩
  rw [if_neg c83] at H
  have c83b0 : decide ((wrap64 ((wrap64 ((rd l0_1 x80_1) - x9_1)) - (rd l1_1 x80_1))) < 0) = false := decide_eq_false c83
  clear c83
  by_cases c89 : x8_1.length < 17592186044416
  rotate_left
  · rw [if_neg c89] at H
    exact absurd H (by simp)
  rw [if_pos c89] at H
  have LMc89 := Aside0.mk c89
  clear c89
  obtain ⟨y392, hy392⟩ : ∃ y_ : List Int, y_ = (x8_1 ++ [wrap64 ((wrap64 ((rd l0_1 x80_1) - x9_1)) - (rd l1_1 x80_1))]) := ⟨_, rfl⟩
  replace H : (plusP.l1 k1 y392 0 l0_1 (l0_1.length : Int) (wrap64 (x80_1 + 1)) a0_0 l0_1 a1_0 l1_1) = some (r1, r2) := by first | (rw [hy392]; with_reducible exact H) | (have H2_ := (Option.bind_some _ _).symm.trans H; rw [hy392]; with_reducible exact H2_) | (have H2_ := (Option.bind_some _ _).symm.trans H; with_reducible exact H2_) | with_reducible exact H | (rw [hy392]; exact H) | exact H
  have Ny392 := Aside0.mk hy392
  clear hy392
  have H' := Aside0.mk H
  clear H
  have p387 : 0 ≤ (x80_1 : Int) := of_decide_eq_true (by first | (with_reducible assumption) | assumption)
  have q387 : x80_1 < (l0_1.length : Int) := of_decide_eq_true (by first | (with_reducible assumption) | assumption)
  obtain ⟨ad387, e387, hx387_0⟩ := Kd.at_int HR0_1.out x80_1 p387 q387
  cases e387
  replace hx387_0 := hc HB.out hx387_0
  replace p387 := eq_true p387
  replace q387 := eq_true q387
  have hnb90 := NB362_361.out
  have hnc90 := NB361_362.out
  have hnb91 := NB362_363.out
  have hnc91 := NB363_362.out
  obtain ⟨hcz92_0, hcz92_1, hfz92_0, hfz92_1⟩ := bz2 BK362.out
  have p388 : 0 ≤ (x80_1 : Int) := of_decide_eq_true (by first | (with_reducible assumption) | assumption)
  have q388 : x80_1 < (l1_1.length : Int) := of_decide_eq_true (by first | (with_reducible assumption) | assumption)
  obtain ⟨ad388, e388, hx388_0⟩ := Kd.at_int HR1_1.out x80_1 p388 q388
  cases e388
  replace hx388_0 := hc HB.out hx388_0
  replace p388 := eq_true p388
  replace q388 := eq_true q388
  go_wp2_with ((with_reducible refine gate_builtin (b := .append) (xs := #[.tmp 104, .tmp 106]) rfl ?_); (try (refine gate_guard (by rfl) ?_; dsimp only)); at_builtin; refine Kd.R_append (Kd.int .i64) (w0 := w) w.heap.size rfl (.tmp 104) (.tmp 106) 34 3 (.int .i64 0) 8 rfl Try.underlying34 info3 rfl (by decide) (by omega) u8 x8_1 (wrap64 ((wrap64 ((rd l0_1 x80_1) - x9_1)) - (rd l1_1 x80_1))) [.int .i64 (wrap64 ((wrap64 ((rd l0_1 x80_1) - x9_1)) - (rd l1_1 x80_1)))] (fun k_ => (w.heap.size ≤ k_)) (fun _ => False) rfl rfl ?aP (fun _ hk => hk.elim) ?aF ?aO ?aB ?aS ?aL ?_; (case aP => exact rfl); (case aB => exact bl); (case aF => exact (fun k_ hk => (Nat.le_trans (below_size bl) hk))); (case aO => exact (by (with_reducible repeat (first | apply Kd.R_alloc | apply Kd.R_drewN | apply Kd.R_drew)); exact HO_8.out)); (case aS => exact (below_size bl)); (case aL => have := LMc89.out; omega); intro v393 w93 ho hb hg hat; rw [← Ny392.out] at ho; replace BK361 := Aside0.mk (blk_grown (bk BK361.out) hg (Kd.R_ne HO_8.out BK361.out (by decide))); replace BK362 := Aside0.mk (blk_grown (bk BK362.out) hg (Kd.R_ne HO_8.out BK362.out (by decide))); replace BK363 := Aside0.mk (blk_grown (bk BK363.out) hg (Kd.R_ne HO_8.out BK363.out (by decide))); replace HB := Aside0.mk (hb); have HO394 := Aside0.mk (ho); clear HO_8; clear ho hb hg hat)
  go_roundg k1
  case measure => have := HK1.out; omega
  case rel => exact ⟨(y392), (0), (wrap64 (x80_1 + 1)), (by first | rfl | (simp; done) | (simp [*]; done)), (by first | rfl | (simp; done) | (simp [*]; done)), H', ⟨by have := HK1.out; omega⟩, ⟨by (with_reducible repeat (first | apply Kd.R_alloc | apply Kd.R_drewN | apply Kd.R_drew)); exact HO394.out⟩, ⟨bk BK361.out⟩, ⟨bk BK362.out⟩, ⟨bk BK363.out⟩, ⟨bl⟩⟩
set_option maxHeartbeats 8000000 in
set_option maxRecDepth 100000 in
theorem plusP.diffB (k : Nat) (a0_0 : Bool) (A0_1 : Option Addr) (c0_1 : Nat) (l0_1 : List Int) (a1_0 : Bool) (A1_1 : Option Addr) (c1_1 : Nat) (l1_1 : List Int) (r1 : Bool) (r2 : List Int) (w : World) (hr0_1 : Kd.C (Kd.int .i64) w A0_1 l0_1.length l0_1) (hc0_1 : l0_1.length ≤ c0_1) (hr1_1 : Kd.C (Kd.int .i64) w A1_1 l1_1.length l1_1) (hc1_1 : l1_1.length ≤ c1_1) (c3 : ¬ (a0_0 == a1_0) = true) (hl : maskref4_less.f k l1_1 l0_1 = some true) (H : plusP.l1 k ([] : List Int) 0 l0_1 (l0_1.length : Int) 0 a0_0 l0_1 a1_0 l1_1 = some (r1, r2)) :
 Calls Try.prog 46 #[.agg #[.bool a1_0, .slice A1_1 l1_1.length c1_1], .agg #[.bool a0_0, .slice A0_1 l0_1.length c0_1]] w fun e w' => ∃ v1_ : Value, e = .returned (.agg #[.bool r1, v1_]) ∧ Kd.V (Kd.int .i64) 3 w' w.heap.size (fun k_ => (w.heap.size ≤ k_)) v1_ r2 ∧ Below w.heap.size w w' := by
 have hu36 := Try.underlying36
 have HR0_1 := Aside0.mk hr0_1
 have HC0_1 := Aside0.mk hc0_1
 clear hr0_1 hc0_1
 have HR1_1 := Aside0.mk hr1_1
 have HC1_1 := Aside0.mk hc1_1
 clear hr1_1 hc1_1
 have HB := Aside0.mk (Below.refl w.heap.size w)
 have c3s : (a1_0 == a0_0) = false := by cases a0_0 <;> cases a1_0 <;> simp_all
 have c3t : decide (a1_0 = a0_0) = false := by cases a0_0 <;> cases a1_0 <;> simp_all
 have c3b0 : (a0_0 == a1_0) = false := by simpa using c3
 (try (have c3b1 : decide (a0_0 = a1_0) = false := by simpa using c3))
 (try (have c3b2 : (a0_0 == a1_0) = false := by simpa using c3))
 (try (have c3b3 : ¬ (a0_0 = a1_0) := by simpa using c3))
 clear c3
 have H' := Aside0.mk H
 clear H
 go_enter Try.func46, Try.ntmps46
 go_wp2_with (first | ((with_reducible refine gate_dst (N := 2) rfl ?_); (try (refine gate_guard (by rfl) ?_; dsimp only)); refine box_event ?hg (N := 2) ?hd (cs := #[.bool a1_0, .slice A1_1 l1_1.length c1_1]) (t := 36) ?hr ?_; (case hd => rfl); (case hg => rfl); (case hr => first | (go_simp; done) | (go_simp; rfl)); intro gb361 hg w71 hbox hb; have BK361 := Aside0.mk (hbox); have GW361 := Aside0.mk (ge (w := w) hg); have GE361 := Aside0.mk (ge (w := w) hg); replace HB := Aside0.mk (below_step bl hb); clear hb hbox hg) | ((with_reducible refine gate_dst (N := 3) rfl ?_); (try (refine gate_guard (by rfl) ?_; dsimp only)); refine box_event ?hg (N := 3) ?hd (cs := #[.bool a0_0, .slice A0_1 l0_1.length c0_1]) (t := 36) ?hr ?_; (case hd => rfl); (case hg => rfl); (case hr => first | (go_simp; done) | (go_simp; rfl)); intro gb362 hg w72 hbox hb; have BK362 := Aside0.mk (hbox); have GW362 := Aside0.mk (ge (w := w) hg); have GE362 := Aside0.mk (ge (w := w) hg); replace HB := Aside0.mk (below_step bl hb); have NB361_362 := Aside0.mk (nl hg (bk BK361.out)); have NB362_361 := Aside0.mk (ng hg (bk BK361.out)); replace BK361 := Aside0.mk (bb BK361.out hb); clear hb hbox hg) | ((with_reducible refine gate_dst (N := 4) rfl ?_); (try (refine gate_guard (by rfl) ?_; dsimp only)); refine box_event ?hg (N := 4) ?hd (cs := #[.bool false, .slice none 0 0]) (t := 36) ?hr ?_; (case hd => rfl); (case hg => rfl); (case hr => first | (go_simp; done) | (go_simp; rfl)); intro gb363 hg w73 hbox hb; have BK363 := Aside0.mk (hbox); have GW363 := Aside0.mk (ge (w := w) hg); have GE363 := Aside0.mk (ge (w := w) hg); replace HB := Aside0.mk (below_step bl hb); have NB361_363 := Aside0.mk (nl hg (bk BK361.out)); have NB363_361 := Aside0.mk (ng hg (bk BK361.out)); replace BK361 := Aside0.mk (bb BK361.out hb); have NB362_363 := Aside0.mk (nl hg (bk BK362.out)); have NB363_362 := Aside0.mk (ng hg (bk BK362.out)); replace BK362 := Aside0.mk (bb BK362.out hb); clear hb hbox hg; have hnb74 := NB361_362.out; have hnc74 := NB362_361.out; have hnb75 := NB361_363.out; have hnc75 := NB363_361.out; obtain ⟨hcz76_0, hcz76_1, hfz76_0, hfz76_1⟩ := bz2 BK361.out; have hnb77 := NB362_363.out; have hnc77 := NB363_362.out; obtain ⟨hcz78_0, hcz78_1, hfz78_0, hfz78_1⟩ := bz2 BK362.out))
 have q0 : w73.cell? ⟨gb361, 0, none⟩ = some (.bool a1_0) := (blk_cell BK361.out 0).trans rfl
 have q1 : w73.cell? ⟨gb361, 1, none⟩ = some (.slice A1_1 l1_1.length c1_1) := (blk_cell BK361.out 1).trans rfl
 have q2 : w73.cell? ⟨gb362, 0, none⟩ = some (.bool a0_0) := (blk_cell BK362.out 0).trans rfl
 have q3 : w73.cell? ⟨gb362, 1, none⟩ = some (.slice A0_1 l0_1.length c0_1) := (blk_cell BK362.out 1).trans rfl
 go_wp2_with fail
 refine (maskref4_less.calls k A1_1 c1_1 l1_1 A0_1 c0_1 l0_1 true _ (Kd.C_below HR1_1.out HB.out) HC1_1.out (Kd.C_below HR0_1.out HB.out) HC0_1.out hl).mono ?_
 rintro e wl ⟨rfl, hwd⟩
 have hw := hwd.below
 clear hwd
 clear q0 q1 q2 q3
 replace BK361 := Aside0.mk (blk_below BK361.out hw)
 replace BK362 := Aside0.mk (blk_below BK362.out hw)
 replace BK363 := Aside0.mk (blk_below BK363.out hw)
 replace HB := Aside0.mk (below_step HB.out hw)
 clear hw
 have q0 : wl.cell? ⟨gb361, 0, none⟩ = some (.bool a1_0) := (blk_cell BK361.out 0).trans rfl
 have q1 : wl.cell? ⟨gb361, 1, none⟩ = some (.slice A1_1 l1_1.length c1_1) := (blk_cell BK361.out 1).trans rfl
 have q2 : wl.cell? ⟨gb362, 0, none⟩ = some (.bool a0_0) := (blk_cell BK362.out 0).trans rfl
 have q3 : wl.cell? ⟨gb362, 1, none⟩ = some (.slice A0_1 l0_1.length c0_1) := (blk_cell BK362.out 1).trans rfl
 have y0 := blk_frozen BK361.out 0
 have y1 := blk_frozen BK361.out 1
 have y2 := blk_frozen BK362.out 0
 have y3 := blk_frozen BK362.out 1
 have ne1 : gb361 ≠ gb362 := NB361_362.out
 have ne2 : gb362 ≠ gb361 := NB362_361.out
 go_upto_region 16 with (fail)
 clear q0 q1 q2 q3 y0 y1 y2 y3 ne1 ne2
 replace HB := Aside0.mk (below_set (g := gb362) (j := 1) (v := .slice A1_1 l1_1.length c1_1) (below_set (g := gb362) (j := 0) (v := .bool a1_0) (below_set (g := gb361) (j := 1) (v := .slice A0_1 l0_1.length c0_1) (below_set (g := gb361) (j := 0) (v := .bool a0_0) HB.out GE361.out) GE361.out) GE362.out) GE362.out)
 replace BK361 := Aside0.mk (blk_far (blk_far (blk_put (cs := #[.bool a0_0, .slice A1_1 l1_1.length c1_1]) (cs' := #[.bool a0_0, .slice A0_1 l0_1.length c0_1]) (blk_put (cs := #[.bool a1_0, .slice A1_1 l1_1.length c1_1]) (cs' := #[.bool a0_0, .slice A1_1 l1_1.length c1_1]) BK361.out 0 _ rfl) 1 _ rfl) (p := ⟨gb362, 0, none⟩) NB361_362.out (.bool a1_0)) (p := ⟨gb362, 1, none⟩) NB361_362.out (.slice A1_1 l1_1.length c1_1))
 replace BK362 := Aside0.mk (blk_put (cs := #[.bool a1_0, .slice A0_1 l0_1.length c0_1]) (cs' := #[.bool a1_0, .slice A1_1 l1_1.length c1_1]) (blk_put (cs := #[.bool a0_0, .slice A0_1 l0_1.length c0_1]) (cs' := #[.bool a1_0, .slice A0_1 l0_1.length c0_1]) (blk_far (blk_far BK362.out (p := ⟨gb361, 0, none⟩) NB362_361.out (.bool a0_0)) (p := ⟨gb361, 1, none⟩) NB362_361.out (.slice A0_1 l0_1.length c0_1)) 0 _ rfl) 1 _ rfl)
 replace BK363 := Aside0.mk (blk_far (blk_far (blk_far (blk_far BK363.out (p := ⟨gb361, 0, none⟩) NB363_361.out (.bool a0_0)) (p := ⟨gb361, 1, none⟩) NB363_361.out (.slice A0_1 l0_1.length c0_1)) (p := ⟨gb362, 0, none⟩) NB363_362.out (.bool a1_0)) (p := ⟨gb362, 1, none⟩) NB363_362.out (.slice A1_1 l1_1.length c1_1))
 generalize (((wl.setCell ⟨gb361, 0, none⟩ (.bool a0_0)).setCell ⟨gb361, 1, none⟩ (.slice A0_1 l0_1.length c0_1)).setCell ⟨gb362, 0, none⟩ (.bool a1_0)).setCell ⟨gb362, 1, none⟩ (.slice A1_1 l1_1.length c1_1) = wm at *
 have q1 : wm.cell? ⟨gb361, 1, none⟩ = some (.slice A0_1 l0_1.length c0_1) := (blk_cell BK361.out 1).trans rfl
 go_wp2_with fail
 clear q1
 go_loopg [8, 9, 80] k (fun kq v8 v9 v80 w' => ∃ (x8_1 : List Int) (x9_1 : Int) (x80_1 : Int), v9 = .int .i64 x9_1 ∧ v80 = .int .i64 x80_1 ∧ Aside0 (plusP.l1 kq x8_1 x9_1 l0_1 (l0_1.length : Int) x80_1 a0_0 l0_1 a1_0 l1_1 = some (r1, r2)) ∧ Aside0 (kq ≤ k) ∧ Aside0 (Kd.R (Kd.int .i64) 3 w' w.heap.size (fun k_ => (w.heap.size ≤ k_)) v8 x8_1) ∧ Aside0 (w'.heap[gb361]? = some (.cells #[.bool a0_0, (.slice A0_1 l0_1.length c0_1)] 36 (0, 0))) ∧ Aside0 (w'.heap[gb362]? = some (.cells #[.bool a1_0, (.slice A1_1 l1_1.length c1_1)] 36 (0, 0))) ∧ Aside0 (w'.heap[gb363]? = some (.cells #[.bool false, (.slice none 0 0)] 36 (0, 0))) ∧ Aside0 (Below w.heap.size w w'))
 case atStart => exact ⟨(([] : List Int)), (0), (0), (by first | rfl | (simp; done) | (simp [*]; done)), (by first | rfl | (simp; done) | (simp [*]; done)), H', ⟨Nat.le_refl _⟩, ⟨by first | exact Kd.R_nil _ _ _ _ _ | exact Kd.N_nil _ _ _ _ _ | exact Kd.V_nil _ _ _ _ _ | exact Kd.Q_nil _ _ _ _ _ | exact Kd.S_nil _ _ _ _ _⟩, ⟨bk BK361.out⟩, ⟨bk BK362.out⟩, ⟨bk BK363.out⟩, ⟨bl⟩⟩
 clear H'
 clear c3b0 c3b1 c3b2 hcz76_0 hcz76_1 hcz78_0 hcz78_1 hfz76_0 hfz76_1 hfz78_0 hfz78_1
 obtain ⟨x8_1, x9_1, x80_1, rfl, rfl, HA, HK1, HO_8, BK361, BK362, BK363, HB⟩ := hrel
 cases gk with
 | zero => exact absurd HA.out (by simp [plusP.l1])
 | succ k1 =>
  have H := HA.out
  clear HA
  simp only [plusP.l1] at H
  by_cases c79 : x80_1 < (l0_1.length : Int)
  rotate_left
  · rw [if_neg c79] at H
    have c79b0 : decide (x80_1 < (l0_1.length : Int)) = false := decide_eq_false c79
    clear c79
    replace H := Option.bind_eq_some_iff.mp H
    obtain ⟨⟨t383, t384⟩, A1050, H⟩ := H
    replace H : (some (t383, t384)) = some (r1, r2) := H
    have A105 := Aside0.mk A1050
    clear A1050
    simp only [Option.some.injEq, Prod.mk.injEq] at H
    obtain ⟨rfl, rfl⟩ := H
    have hnb106 := NB361_362.out
    have hnc106 := NB362_361.out
    have hnb107 := NB361_363.out
    have hnc107 := NB363_361.out
    obtain ⟨hcz108_0, hcz108_1, hfz108_0, hfz108_1⟩ := bz2 BK361.out
    obtain ⟨Ao109, co109, eo109⟩ := Kd.R_slice HO_8.out
    subst eo109
    go_wp2_with ((with_reducible refine gate_callee (f := 66) rfl ?_); refine goesL_ (some 112) rfl rfl Try.func66 (by kernel_rfl) rfl #[.bool a0_0, .slice Ao109 x8_1.length co109] rfl (by (try simp only [List.map_toArray, List.map_cons, List.map_nil]); first | done | rfl | (simp only [List.length_drop, List.length_take]; rfl)) ?_; (with_reducible refine (maskref4_trim.calls a0_0 (fun k_ => some k_ = (.slice Ao109 x8_1.length co109 : Value).ownBlock) _ _ x8_1 t383 t384 _ ?side1 A105.out).mono ?_); (case side1 => exact Kd.R_V (Kd.R_tight rfl (Kd.R_types (Kd.R_types (Kd.R_types (HO_8.out) BK361.out (by decide)) BK362.out (by decide)) BK363.out (by decide)))); rintro e w110 ⟨v385, rfl, ho0, hb⟩; refine ⟨_, rfl, ?_⟩; have HO386 := Aside0.mk (Kd.V_lower (Kd.V_mono (ok' := fun k_ => (w.heap.size ≤ k_) ∧ k_ ≠ gb361 ∧ k_ ≠ gb362 ∧ k_ ≠ gb363) ho0 (fun k_ hk_ => ⟨Or.elim hk_ (fun hs_ => ((Kd.R_types (Kd.R_types (Kd.R_types (HO_8.out) BK361.out (by decide)) BK362.out (by decide)) BK363.out (by decide)).1 k_ hs_.symm).1.1.1) (fun hn_ => (Nat.le_trans (below_size bl) hn_)), Or.elim hk_ (fun hs_ => ((Kd.R_types (Kd.R_types (Kd.R_types (HO_8.out) BK361.out (by decide)) BK362.out (by decide)) BK363.out (by decide)).1 k_ hs_.symm).1.1.2) (fun hn_ => (Kd.freshB (g := gb361) (o := .cells #[.bool a0_0, .slice A0_1 l0_1.length c0_1] 36 (0, 0)) (bk BK361.out) k_ hn_)), Or.elim hk_ (fun hs_ => ((Kd.R_types (Kd.R_types (Kd.R_types (HO_8.out) BK361.out (by decide)) BK362.out (by decide)) BK363.out (by decide)).1 k_ hs_.symm).1.2) (fun hn_ => (Kd.freshB (g := gb362) (o := .cells #[.bool a1_0, .slice A1_1 l1_1.length c1_1] 36 (0, 0)) (bk BK362.out) k_ hn_)), Or.elim hk_ (fun hs_ => ((Kd.R_types (Kd.R_types (Kd.R_types (HO_8.out) BK361.out (by decide)) BK362.out (by decide)) BK363.out (by decide)).1 k_ hs_.symm).2) (fun hn_ => (Kd.freshB (g := gb363) (o := .cells #[.bool false, .slice none 0 0] 36 (0, 0)) (bk BK363.out) k_ hn_))⟩)) (below_size bl)); replace HO_8 := Aside0.mk (rb HO_8.out hb); replace BK361 := Aside0.mk (bb BK361.out hb); replace BK362 := Aside0.mk (bb BK362.out hb); replace BK363 := Aside0.mk (bb BK363.out hb); replace HB := Aside0.mk (below_step bl hb); (try clear hb); (try clear ho0); have hnb111 := NB363_362.out; have hnc111 := NB362_363.out; obtain ⟨hcz112_0, hcz112_1, hfz112_0, hfz112_1⟩ := bz2 BK363.out; obtain ⟨Ao113, co113, eo113⟩ := Kd.V_slice HO386.out; subst eo113)
    refine bodyPost_ret (results_cell_row rfl _ _ gb363 36 #[.bool t383, .slice Ao113 t384.length co113] (0, 0) _ rfl (by (with_reducible repeat (first | refine blk_drewN ?_ _ | refine blk_drew ?_ | refine blk_alloc ?_ _)); refine blk_put (cs := #[.bool t383, .slice none 0 0]) ?_ 1 _ rfl; (with_reducible repeat (first | refine blk_drewN ?_ _ | refine blk_drew ?_ | refine blk_alloc ?_ _)); refine blk_put (cs := #[.bool false, .slice none 0 0]) ?_ 0 _ rfl; (with_reducible repeat (first | refine blk_drewN ?_ _ | refine blk_drew ?_ | refine blk_alloc ?_ _)); exact BK363.out) Try.underlying36 rfl (by kernel_rfl)) rfl ?_
    exact ⟨_, by first | rfl | (simp [errW_none, errW_some] <;> rfl) | (simp [*, errW_none, errW_some] <;> rfl), by (with_reducible repeat (first | apply Kd.V_alloc | apply Kd.V_drewN | apply Kd.V_drew)); exact Kd.V_mono (Kd.V_far (p := ⟨gb363, 1, none⟩) (Kd.V_far (p := ⟨gb363, 0, none⟩) (Kd.V_mono HO386.out (fun k_ hk => (⟨hk, hk.2.2.2⟩ : _ ∧ k_ ≠ gb363))) (fun _ hk => hk.2) (.bool t383)) (fun _ hk => hk.2) (.slice Ao113 t384.length co113)) (fun _ hk => hk.1.1), bl⟩
  rw [if_pos c79] at H
  have c79b0 : decide (x80_1 < (l0_1.length : Int)) = true := decide_eq_true c79
  clear c79
  by_cases c80 : 0 ≤ x80_1
  rotate_left
  · rw [if_neg c80] at H
    exact absurd H (by simp)
  rw [if_pos c80] at H
  have c80b0 : decide (0 ≤ x80_1) = true := decide_eq_true c80
  clear c80
  by_cases c81 : x80_1 < (l0_1.length : Int)
  rotate_left
  · rw [if_neg c81] at H
    exact absurd H (by simp)
  rw [if_pos c81] at H
  have c81b0 : decide (x80_1 < (l0_1.length : Int)) = true := decide_eq_true c81
  clear c81
  by_cases c82 : x80_1 < (l1_1.length : Int)
  rotate_left
  · rw [if_neg c82] at H
    have c82b0 : decide (x80_1 < (l1_1.length : Int)) = false := decide_eq_false c82
    clear c82
    by_cases c94 : (wrap64 ((rd l0_1 x80_1) - x9_1)) < 0
    · rw [if_pos c94] at H
      have c94b0 : decide ((wrap64 ((rd l0_1 x80_1) - x9_1)) < 0) = true := decide_eq_true c94
      clear c94
      by_cases c95 : x8_1.length < 17592186044416
      rotate_left
      · rw [if_neg c95] at H
        exact absurd H (by simp)
      rw [if_pos c95] at H
      have LMc95 := Aside0.mk c95
      clear c95
      obtain ⟨y395, hy395⟩ : ∃ y_ : List Int, y_ = (x8_1 ++ [wrap64 ((wrap64 ((rd l0_1 x80_1) - x9_1)) + 10)]) := ⟨_, rfl⟩
      replace H : (plusP.l1 k1 y395 1 l0_1 (l0_1.length : Int) (wrap64 (x80_1 + 1)) a0_0 l0_1 a1_0 l1_1) = some (r1, r2) := by first | (rw [hy395]; with_reducible exact H) | (have H2_ := (Option.bind_some _ _).symm.trans H; rw [hy395]; with_reducible exact H2_) | (have H2_ := (Option.bind_some _ _).symm.trans H; with_reducible exact H2_) | with_reducible exact H | (rw [hy395]; exact H) | exact H
      have Ny395 := Aside0.mk hy395
      clear hy395
      have H' := Aside0.mk H
      clear H
      have p387 : 0 ≤ (x80_1 : Int) := of_decide_eq_true (by first | (with_reducible assumption) | assumption)
      have q387 : x80_1 < (l0_1.length : Int) := of_decide_eq_true (by first | (with_reducible assumption) | assumption)
      obtain ⟨ad387, e387, hx387_0⟩ := Kd.at_int HR0_1.out x80_1 p387 q387
      cases e387
      replace hx387_0 := hc HB.out hx387_0
      replace p387 := eq_true p387
      replace q387 := eq_true q387
      have hnb96 := NB362_361.out
      have hnc96 := NB361_362.out
      have hnb97 := NB362_363.out
      have hnc97 := NB363_362.out
      obtain ⟨hcz98_0, hcz98_1, hfz98_0, hfz98_1⟩ := bz2 BK362.out
      go_wp2_with ((with_reducible refine gate_builtin (b := .append) (xs := #[.tmp 104, .tmp 106]) rfl ?_); (try (refine gate_guard (by rfl) ?_; dsimp only)); at_builtin; refine Kd.R_append (Kd.int .i64) (w0 := w) w.heap.size rfl (.tmp 104) (.tmp 106) 34 3 (.int .i64 0) 8 rfl Try.underlying34 info3 rfl (by decide) (by omega) u8 x8_1 (wrap64 ((wrap64 ((rd l0_1 x80_1) - x9_1)) + 10)) [.int .i64 (wrap64 ((wrap64 ((rd l0_1 x80_1) - x9_1)) + 10))] (fun k_ => (w.heap.size ≤ k_)) (fun _ => False) rfl rfl ?aP (fun _ hk => hk.elim) ?aF ?aO ?aB ?aS ?aL ?_; (case aP => exact rfl); (case aB => exact bl); (case aF => exact (fun k_ hk => (Nat.le_trans (below_size bl) hk))); (case aO => exact (by (with_reducible repeat (first | apply Kd.R_alloc | apply Kd.R_drewN | apply Kd.R_drew)); exact HO_8.out)); (case aS => exact (below_size bl)); (case aL => have := LMc95.out; omega); intro v396 w99 ho hb hg hat; rw [← Ny395.out] at ho; replace BK361 := Aside0.mk (blk_grown (bk BK361.out) hg (Kd.R_ne HO_8.out BK361.out (by decide))); replace BK362 := Aside0.mk (blk_grown (bk BK362.out) hg (Kd.R_ne HO_8.out BK362.out (by decide))); replace BK363 := Aside0.mk (blk_grown (bk BK363.out) hg (Kd.R_ne HO_8.out BK363.out (by decide))); replace HB := Aside0.mk (hb); have HO397 := Aside0.mk (ho); clear HO_8; clear ho hb hg hat)
      go_roundg k1
      case measure => have := HK1.out; omega
      case rel => exact ⟨(y395), (1), (wrap64 (x80_1 + 1)), (by first | rfl | (simp; done) | (simp [*]; done)), (by first | rfl | (simp; done) | (simp [*]; done)), H', ⟨by have := HK1.out; omega⟩, ⟨by (with_reducible repeat (first | apply Kd.R_alloc | apply Kd.R_drewN | apply Kd.R_drew)); exact HO397.out⟩, ⟨bk BK361.out⟩, ⟨bk BK362.out⟩, ⟨bk BK363.out⟩, ⟨bl⟩⟩
    rw [if_neg c94] at H
    have c94b0 : decide ((wrap64 ((rd l0_1 x80_1) - x9_1)) < 0) = false := decide_eq_false c94
    clear c94
    by_cases c100 : x8_1.length < 17592186044416
    rotate_left
    · rw [if_neg c100] at H
      exact absurd H (by simp)
    rw [if_pos c100] at H
    have LMc100 := Aside0.mk c100
    clear c100
    obtain ⟨y398, hy398⟩ : ∃ y_ : List Int, y_ = (x8_1 ++ [wrap64 ((rd l0_1 x80_1) - x9_1)]) := ⟨_, rfl⟩
    replace H : (plusP.l1 k1 y398 0 l0_1 (l0_1.length : Int) (wrap64 (x80_1 + 1)) a0_0 l0_1 a1_0 l1_1) = some (r1, r2) := by first | (rw [hy398]; with_reducible exact H) | (have H2_ := (Option.bind_some _ _).symm.trans H; rw [hy398]; with_reducible exact H2_) | (have H2_ := (Option.bind_some _ _).symm.trans H; with_reducible exact H2_) | with_reducible exact H | (rw [hy398]; exact H) | exact H
    have Ny398 := Aside0.mk hy398
    clear hy398
    have H' := Aside0.mk H
    clear H
    have p387 : 0 ≤ (x80_1 : Int) := of_decide_eq_true (by first | (with_reducible assumption) | assumption)
    have q387 : x80_1 < (l0_1.length : Int) := of_decide_eq_true (by first | (with_reducible assumption) | assumption)
    obtain ⟨ad387, e387, hx387_0⟩ := Kd.at_int HR0_1.out x80_1 p387 q387
    cases e387
    replace hx387_0 := hc HB.out hx387_0
    replace p387 := eq_true p387
    replace q387 := eq_true q387
    have hnb101 := NB362_361.out
    have hnc101 := NB361_362.out
    have hnb102 := NB362_363.out
    have hnc102 := NB363_362.out
    obtain ⟨hcz103_0, hcz103_1, hfz103_0, hfz103_1⟩ := bz2 BK362.out
    go_wp2_with ((with_reducible refine gate_builtin (b := .append) (xs := #[.tmp 104, .tmp 106]) rfl ?_); (try (refine gate_guard (by rfl) ?_; dsimp only)); at_builtin; refine Kd.R_append (Kd.int .i64) (w0 := w) w.heap.size rfl (.tmp 104) (.tmp 106) 34 3 (.int .i64 0) 8 rfl Try.underlying34 info3 rfl (by decide) (by omega) u8 x8_1 (wrap64 ((rd l0_1 x80_1) - x9_1)) [.int .i64 (wrap64 ((rd l0_1 x80_1) - x9_1))] (fun k_ => (w.heap.size ≤ k_)) (fun _ => False) rfl rfl ?aP (fun _ hk => hk.elim) ?aF ?aO ?aB ?aS ?aL ?_; (case aP => exact rfl); (case aB => exact bl); (case aF => exact (fun k_ hk => (Nat.le_trans (below_size bl) hk))); (case aO => exact (by (with_reducible repeat (first | apply Kd.R_alloc | apply Kd.R_drewN | apply Kd.R_drew)); exact HO_8.out)); (case aS => exact (below_size bl)); (case aL => have := LMc100.out; omega); intro v399 w104 ho hb hg hat; rw [← Ny398.out] at ho; replace BK361 := Aside0.mk (blk_grown (bk BK361.out) hg (Kd.R_ne HO_8.out BK361.out (by decide))); replace BK362 := Aside0.mk (blk_grown (bk BK362.out) hg (Kd.R_ne HO_8.out BK362.out (by decide))); replace BK363 := Aside0.mk (blk_grown (bk BK363.out) hg (Kd.R_ne HO_8.out BK363.out (by decide))); replace HB := Aside0.mk (hb); have HO400 := Aside0.mk (ho); clear HO_8; clear ho hb hg hat)
    go_roundg k1
    case measure => have := HK1.out; omega
    case rel => exact ⟨(y398), (0), (wrap64 (x80_1 + 1)), (by first | rfl | (simp; done) | (simp [*]; done)), (by first | rfl | (simp; done) | (simp [*]; done)), H', ⟨by have := HK1.out; omega⟩, ⟨by (with_reducible repeat (first | apply Kd.R_alloc | apply Kd.R_drewN | apply Kd.R_drew)); exact HO400.out⟩, ⟨bk BK361.out⟩, ⟨bk BK362.out⟩, ⟨bk BK363.out⟩, ⟨bl⟩⟩
  rw [if_pos c82] at H
  have c82b0 : decide (x80_1 < (l1_1.length : Int)) = true := decide_eq_true c82
  clear c82
  by_cases c83 : (wrap64 ((wrap64 ((rd l0_1 x80_1) - x9_1)) - (rd l1_1 x80_1))) < 0
  · rw [if_pos c83] at H
    have c83b0 : decide ((wrap64 ((wrap64 ((rd l0_1 x80_1) - x9_1)) - (rd l1_1 x80_1))) < 0) = true := decide_eq_true c83
    clear c83
    by_cases c84 : x8_1.length < 17592186044416
    rotate_left
    · rw [if_neg c84] at H
      exact absurd H (by simp)
    rw [if_pos c84] at H
    have LMc84 := Aside0.mk c84
    clear c84
    obtain ⟨y389, hy389⟩ : ∃ y_ : List Int, y_ = (x8_1 ++ [wrap64 ((wrap64 ((wrap64 ((rd l0_1 x80_1) - x9_1)) - (rd l1_1 x80_1))) + 10)]) := ⟨_, rfl⟩
    replace H : (plusP.l1 k1 y389 1 l0_1 (l0_1.length : Int) (wrap64 (x80_1 + 1)) a0_0 l0_1 a1_0 l1_1) = some (r1, r2) := by first | (rw [hy389]; with_reducible exact H) | (have H2_ := (Option.bind_some _ _).symm.trans H; rw [hy389]; with_reducible exact H2_) | (have H2_ := (Option.bind_some _ _).symm.trans H; with_reducible exact H2_) | with_reducible exact H | (rw [hy389]; exact H) | exact H
    have Ny389 := Aside0.mk hy389
    clear hy389
    have H' := Aside0.mk H
    clear H
    have p387 : 0 ≤ (x80_1 : Int) := of_decide_eq_true (by first | (with_reducible assumption) | assumption)
    have q387 : x80_1 < (l0_1.length : Int) := of_decide_eq_true (by first | (with_reducible assumption) | assumption)
    obtain ⟨ad387, e387, hx387_0⟩ := Kd.at_int HR0_1.out x80_1 p387 q387
    cases e387
    replace hx387_0 := hc HB.out hx387_0
    replace p387 := eq_true p387
    replace q387 := eq_true q387
    have hnb85 := NB362_361.out
    have hnc85 := NB361_362.out
    have hnb86 := NB362_363.out
    have hnc86 := NB363_362.out
    obtain ⟨hcz87_0, hcz87_1, hfz87_0, hfz87_1⟩ := bz2 BK362.out
    have p388 : 0 ≤ (x80_1 : Int) := of_decide_eq_true (by first | (with_reducible assumption) | assumption)
    have q388 : x80_1 < (l1_1.length : Int) := of_decide_eq_true (by first | (with_reducible assumption) | assumption)
    obtain ⟨ad388, e388, hx388_0⟩ := Kd.at_int HR1_1.out x80_1 p388 q388
    cases e388
    replace hx388_0 := hc HB.out hx388_0
    replace p388 := eq_true p388
    replace q388 := eq_true q388
    go_wp2_with ((with_reducible refine gate_builtin (b := .append) (xs := #[.tmp 104, .tmp 106]) rfl ?_); (try (refine gate_guard (by rfl) ?_; dsimp only)); at_builtin; refine Kd.R_append (Kd.int .i64) (w0 := w) w.heap.size rfl (.tmp 104) (.tmp 106) 34 3 (.int .i64 0) 8 rfl Try.underlying34 info3 rfl (by decide) (by omega) u8 x8_1 (wrap64 ((wrap64 ((wrap64 ((rd l0_1 x80_1) - x9_1)) - (rd l1_1 x80_1))) + 10)) [.int .i64 (wrap64 ((wrap64 ((wrap64 ((rd l0_1 x80_1) - x9_1)) - (rd l1_1 x80_1))) + 10))] (fun k_ => (w.heap.size ≤ k_)) (fun _ => False) rfl rfl ?aP (fun _ hk => hk.elim) ?aF ?aO ?aB ?aS ?aL ?_; (case aP => exact rfl); (case aB => exact bl); (case aF => exact (fun k_ hk => (Nat.le_trans (below_size bl) hk))); (case aO => exact (by (with_reducible repeat (first | apply Kd.R_alloc | apply Kd.R_drewN | apply Kd.R_drew)); exact HO_8.out)); (case aS => exact (below_size bl)); (case aL => have := LMc84.out; omega); intro v390 w88 ho hb hg hat; rw [← Ny389.out] at ho; replace BK361 := Aside0.mk (blk_grown (bk BK361.out) hg (Kd.R_ne HO_8.out BK361.out (by decide))); replace BK362 := Aside0.mk (blk_grown (bk BK362.out) hg (Kd.R_ne HO_8.out BK362.out (by decide))); replace BK363 := Aside0.mk (blk_grown (bk BK363.out) hg (Kd.R_ne HO_8.out BK363.out (by decide))); replace HB := Aside0.mk (hb); have HO391 := Aside0.mk (ho); clear HO_8; clear ho hb hg hat)
    go_roundg k1
    case measure => have := HK1.out; omega
    case rel => exact ⟨(y389), (1), (wrap64 (x80_1 + 1)), (by first | rfl | (simp; done) | (simp [*]; done)), (by first | rfl | (simp; done) | (simp [*]; done)), H', ⟨by have := HK1.out; omega⟩, ⟨by (with_reducible repeat (first | apply Kd.R_alloc | apply Kd.R_drewN | apply Kd.R_drew)); exact HO391.out⟩, ⟨bk BK361.out⟩, ⟨bk BK362.out⟩, ⟨bk BK363.out⟩, ⟨bl⟩⟩
  rw [if_neg c83] at H
  have c83b0 : decide ((wrap64 ((wrap64 ((rd l0_1 x80_1) - x9_1)) - (rd l1_1 x80_1))) < 0) = false := decide_eq_false c83
  clear c83
  by_cases c89 : x8_1.length < 17592186044416
  rotate_left
  · rw [if_neg c89] at H
    exact absurd H (by simp)
  rw [if_pos c89] at H
  have LMc89 := Aside0.mk c89
  clear c89
  obtain ⟨y392, hy392⟩ : ∃ y_ : List Int, y_ = (x8_1 ++ [wrap64 ((wrap64 ((rd l0_1 x80_1) - x9_1)) - (rd l1_1 x80_1))]) := ⟨_, rfl⟩
  replace H : (plusP.l1 k1 y392 0 l0_1 (l0_1.length : Int) (wrap64 (x80_1 + 1)) a0_0 l0_1 a1_0 l1_1) = some (r1, r2) := by first | (rw [hy392]; with_reducible exact H) | (have H2_ := (Option.bind_some _ _).symm.trans H; rw [hy392]; with_reducible exact H2_) | (have H2_ := (Option.bind_some _ _).symm.trans H; with_reducible exact H2_) | with_reducible exact H | (rw [hy392]; exact H) | exact H
  have Ny392 := Aside0.mk hy392
  clear hy392
  have H' := Aside0.mk H
  clear H
  have p387 : 0 ≤ (x80_1 : Int) := of_decide_eq_true (by first | (with_reducible assumption) | assumption)
  have q387 : x80_1 < (l0_1.length : Int) := of_decide_eq_true (by first | (with_reducible assumption) | assumption)
  obtain ⟨ad387, e387, hx387_0⟩ := Kd.at_int HR0_1.out x80_1 p387 q387
  cases e387
  replace hx387_0 := hc HB.out hx387_0
  replace p387 := eq_true p387
  replace q387 := eq_true q387
  have hnb90 := NB362_361.out
  have hnc90 := NB361_362.out
  have hnb91 := NB362_363.out
  have hnc91 := NB363_362.out
  obtain ⟨hcz92_0, hcz92_1, hfz92_0, hfz92_1⟩ := bz2 BK362.out
  have p388 : 0 ≤ (x80_1 : Int) := of_decide_eq_true (by first | (with_reducible assumption) | assumption)
  have q388 : x80_1 < (l1_1.length : Int) := of_decide_eq_true (by first | (with_reducible assumption) | assumption)
  obtain ⟨ad388, e388, hx388_0⟩ := Kd.at_int HR1_1.out x80_1 p388 q388
  cases e388
  replace hx388_0 := hc HB.out hx388_0
  replace p388 := eq_true p388
  replace q388 := eq_true q388
  go_wp2_with ((with_reducible refine gate_builtin (b := .append) (xs := #[.tmp 104, .tmp 106]) rfl ?_); (try (refine gate_guard (by rfl) ?_; dsimp only)); at_builtin; refine Kd.R_append (Kd.int .i64) (w0 := w) w.heap.size rfl (.tmp 104) (.tmp 106) 34 3 (.int .i64 0) 8 rfl Try.underlying34 info3 rfl (by decide) (by omega) u8 x8_1 (wrap64 ((wrap64 ((rd l0_1 x80_1) - x9_1)) - (rd l1_1 x80_1))) [.int .i64 (wrap64 ((wrap64 ((rd l0_1 x80_1) - x9_1)) - (rd l1_1 x80_1)))] (fun k_ => (w.heap.size ≤ k_)) (fun _ => False) rfl rfl ?aP (fun _ hk => hk.elim) ?aF ?aO ?aB ?aS ?aL ?_; (case aP => exact rfl); (case aB => exact bl); (case aF => exact (fun k_ hk => (Nat.le_trans (below_size bl) hk))); (case aO => exact (by (with_reducible repeat (first | apply Kd.R_alloc | apply Kd.R_drewN | apply Kd.R_drew)); exact HO_8.out)); (case aS => exact (below_size bl)); (case aL => have := LMc89.out; omega); intro v393 w93 ho hb hg hat; rw [← Ny392.out] at ho; replace BK361 := Aside0.mk (blk_grown (bk BK361.out) hg (Kd.R_ne HO_8.out BK361.out (by decide))); replace BK362 := Aside0.mk (blk_grown (bk BK362.out) hg (Kd.R_ne HO_8.out BK362.out (by decide))); replace BK363 := Aside0.mk (blk_grown (bk BK363.out) hg (Kd.R_ne HO_8.out BK363.out (by decide))); replace HB := Aside0.mk (hb); have HO394 := Aside0.mk (ho); clear HO_8; clear ho hb hg hat)
  go_roundg k1
  case measure => have := HK1.out; omega
  case rel => exact ⟨(y392), (0), (wrap64 (x80_1 + 1)), (by first | rfl | (simp; done) | (simp [*]; done)), (by first | rfl | (simp; done) | (simp [*]; done)), H', ⟨by have := HK1.out; omega⟩, ⟨by (with_reducible repeat (first | apply Kd.R_alloc | apply Kd.R_drewN | apply Kd.R_drew)); exact HO394.out⟩, ⟨bk BK361.out⟩, ⟨bk BK362.out⟩, ⟨bk BK363.out⟩, ⟨bl⟩⟩
def maskref4_Dec_Plus.f (k : Nat) (a0_0 : Bool) (l0_1 : List Int) (a1_0 : Bool) (l1_1 : List Int) : Option (Bool × List Int) := if (a0_0 == a1_0) = true then plusP.l0 k ([] : List Int) 0 0 a0_0 l0_1 a1_0 l1_1 else (maskref4_less.f k l0_1 l1_1).bind fun t => if t = true then plusP.l1 k ([] : List Int) 0 l1_1 (l1_1.length : Int) 0 a1_0 l1_1 a0_0 l0_1 else plusP.l1 k ([] : List Int) 0 l0_1 (l0_1.length : Int) 0 a0_0 l0_1 a1_0 l1_1
theorem maskref4_Dec_Plus.mono : ∀ a0 a1 a2 a3 k, LeO (maskref4_Dec_Plus.f k a0 a1 a2 a3) (maskref4_Dec_Plus.f (k + 1) a0 a1 a2 a3) := by
 intro a0 a1 a2 a3 k
 unfold maskref4_Dec_Plus.f
 refine LeO.ite ((plusP.mono_l k).1 _ _ _ _ _ _ _) (LeO.bind (maskref4_less.mono _ _ k) (fun t => LeO.ite ((plusP.mono_l k).2.2 _ _ _ _ _ _ _ _ _) ((plusP.mono_l k).2.2 _ _ _ _ _ _ _ _ _)))
theorem maskref4_Dec_Plus.calls (k : Nat) (a0_0 : Bool) (A0_1 : Option Addr) (c0_1 : Nat) (l0_1 : List Int) (a1_0 : Bool) (A1_1 : Option Addr) (c1_1 : Nat) (l1_1 : List Int) (r1 : Bool) (r2 : List Int) (w : World) (hr0_1 : Kd.C (Kd.int .i64) w A0_1 l0_1.length l0_1) (hc0_1 : l0_1.length ≤ c0_1) (hr1_1 : Kd.C (Kd.int .i64) w A1_1 l1_1.length l1_1) (hc1_1 : l1_1.length ≤ c1_1) (h : maskref4_Dec_Plus.f k a0_0 l0_1 a1_0 l1_1 = some (r1, r2)) :
 Calls Try.prog 46 #[.agg #[.bool a0_0, .slice A0_1 l0_1.length c0_1], .agg #[.bool a1_0, .slice A1_1 l1_1.length c1_1]] w fun e w' => ∃ v1_ : Value, e = .returned (.agg #[.bool r1, v1_]) ∧ Kd.V (Kd.int .i64) 3 w' w.heap.size (fun k_ => (w.heap.size ≤ k_)) v1_ r2 ∧ Below w.heap.size w w' := by
 unfold maskref4_Dec_Plus.f at h
 by_cases c3 : (a0_0 == a1_0) = true
 · rw [if_pos c3] at h
   exact plusP.same k a0_0 A0_1 c0_1 l0_1 a1_0 A1_1 c1_1 l1_1 r1 r2 w hr0_1 hc0_1 hr1_1 hc1_1 c3 h
 rw [if_neg c3] at h
 obtain ⟨t, hl, h⟩ := Option.bind_eq_some_iff.mp h
 cases t with
 | true => exact plusP.diffB k a1_0 A1_1 c1_1 l1_1 a0_0 A0_1 c0_1 l0_1 r1 r2 w hr1_1 hc1_1 hr0_1 hc0_1 (by cases a0_0 <;> cases a1_0 <;> simp_all) hl (by simpa using h)
 | false => exact plusP.diffA k a0_0 A0_1 c0_1 l0_1 a1_0 A1_1 c1_1 l1_1 r1 r2 w hr0_1 hc0_1 hr1_1 hc1_1 c3 hl (by simpa using h)

end Go.Proofs.Ytlbljdjbcbgnlaa.PX
namespace Go.Proofs.Ytlbljdjbcbgnlaa.PX
open Go.RowKit Go.Proofs.YtlbljdjbcbgnlaaW.PrintWords Go.Proofs.YtlbljdjbcbgnlaaW.PrintLast Go.Proofs.YtlbljdjbcbgnlaaW.PrintMore
attribute [local go_sem] max2_int min2_int max_two min_two max_three min_three max_four min_four   -- for this text's walks alone
set_option linter.unusedVariables false
set_option linter.unusedSimpArgs false

-- the contract of function 47 ((maskwright/maskref4.Dec).Minus): written by hand
/-! ### maskref4_Dec_Minus: function 47 -/
theorem outW {W : World} {b g : Nat} {v : Value} {xs : List Int} {ok ok' : Nat → Prop} (h : Kd.V (Kd.int .i64) 3 W b ok v xs) (hok : ∀ k, ok k → k ≠ g) (x y : Value) (hok' : ∀ k, ok k → ok' k) : Kd.V (Kd.int .i64) 3 ((W.setCell ⟨g, 0, none⟩ x).setCell ⟨g, 1, none⟩ y) b ok' v xs :=
 Kd.V_mono (Kd.V_far (Kd.V_far (p := ⟨g, 0, none⟩) h hok x) (p := ⟨g, 1, none⟩) hok y) hok'
def maskref4_Dec_Minus.f (k : Nat) (a0_0 : Bool) (l0_1 : List Int) (a1_0 : Bool) (l1_1 : List Int) : Option (Bool × List Int) := maskref4_Dec_Plus.f k a0_0 l0_1 (!a1_0 && decide (0 < l1_1.length)) l1_1
theorem maskref4_Dec_Minus.mono : ∀ a0 a1 a2 a3 k, LeO (maskref4_Dec_Minus.f k a0 a1 a2 a3) (maskref4_Dec_Minus.f (k + 1) a0 a1 a2 a3) := fun a0 a1 a2 a3 k => maskref4_Dec_Plus.mono _ _ _ _ k
set_option maxHeartbeats 8000000 in
set_option maxRecDepth 100000 in
theorem maskref4_Dec_Minus.calls (k : Nat) (a0_0 : Bool) (A0_1 : Option Addr) (c0_1 : Nat) (l0_1 : List Int) (a1_0 : Bool) (A1_1 : Option Addr) (c1_1 : Nat) (l1_1 : List Int) (r1 : Bool) (r2 : List Int) (w : World) (hr0_1 : Kd.C (Kd.int .i64) w A0_1 l0_1.length l0_1) (hc0_1 : l0_1.length ≤ c0_1) (hr1_1 : Kd.C (Kd.int .i64) w A1_1 l1_1.length l1_1) (hc1_1 : l1_1.length ≤ c1_1) (h : maskref4_Dec_Minus.f k a0_0 l0_1 a1_0 l1_1 = some (r1, r2)) :
 Calls Try.prog 47 #[.agg #[.bool a0_0, .slice A0_1 l0_1.length c0_1], .agg #[.bool a1_0, .slice A1_1 l1_1.length c1_1]] w fun e w' => ∃ v1_ : Value, e = .returned (.agg #[.bool r1, v1_]) ∧ Kd.V (Kd.int .i64) 3 w' w.heap.size (fun k_ => (w.heap.size ≤ k_)) v1_ r2 ∧ Below w.heap.size w w' := by
 unfold maskref4_Dec_Minus.f at h
 have HB := Aside0.mk (below_alloc (below_alloc (below_alloc (Below.refl w.heap.size w) (.cells #[.bool a0_0, .slice A0_1 l0_1.length c0_1] 36)) (.cells #[.bool a1_0, .slice A1_1 l1_1.length c1_1] 36)) (.cells #[.bool false, .slice none 0 0] 36))
 have X0 := Aside0.mk (blk_alloc (blk_alloc (blk_new w (.cells #[.bool a0_0, .slice A0_1 l0_1.length c0_1] 36)) (.cells #[.bool a1_0, .slice A1_1 l1_1.length c1_1] 36)) (.cells #[.bool false, .slice none 0 0] 36))
 have X1 := Aside0.mk (blk_alloc (Hnd.blk_new1 w (.cells #[.bool a0_0, .slice A0_1 l0_1.length c0_1] 36) (.cells #[.bool a1_0, .slice A1_1 l1_1.length c1_1] 36)) (.cells #[.bool false, .slice none 0 0] 36))
 have X2 := Aside0.mk (Hnd.blk_new2 w (.cells #[.bool a0_0, .slice A0_1 l0_1.length c0_1] 36) (.cells #[.bool a1_0, .slice A1_1 l1_1.length c1_1] 36) (.cells #[.bool false, .slice none 0 0] 36))
 have R0 := Aside0.mk (Kd.C_below hr0_1 HB.out)
 have R1 := Aside0.mk (Kd.C_below hr1_1 HB.out)
 clear hr0_1 hr1_1
 go_enter Try.func47, Try.ntmps47
 go_upto_region 1 with (fail)
 have hs : ((w.alloc (.cells #[.bool a0_0, .slice A0_1 l0_1.length c0_1] 36)).alloc (.cells #[.bool a1_0, .slice A1_1 l1_1.length c1_1] 36)).alloc (.cells #[.bool false, .slice none 0 0] 36) = ((w.alloc (.cells #[.bool a0_0, .slice A0_1 l0_1.length c0_1] 36)).alloc (.cells #[.bool a1_0, .slice A1_1 l1_1.length c1_1] 36)).alloc (.cells #[.bool false, .slice none 0 0] 36) := rfl
 have hsz : (((w.alloc (.cells #[.bool a0_0, .slice A0_1 l0_1.length c0_1] 36)).alloc (.cells #[.bool a1_0, .slice A1_1 l1_1.length c1_1] 36)).alloc (.cells #[.bool false, .slice none 0 0] 36)).heap.size = w.heap.size + 3 := by simp
 generalize ((w.alloc (.cells #[.bool a0_0, .slice A0_1 l0_1.length c0_1] 36)).alloc (.cells #[.bool a1_0, .slice A1_1 l1_1.length c1_1] 36)).alloc (.cells #[.bool false, .slice none 0 0] 36) = w0 at *
 clear hs
 have x0 : w0.cell? ⟨w.heap.size, 0, none⟩ = some (.bool a0_0) := (blk_cell X0.out 0).trans rfl
 have x1 : w0.cell? ⟨w.heap.size, 1, none⟩ = some (.slice A0_1 l0_1.length c0_1) := (blk_cell X0.out 1).trans rfl
 have y0 : w0.cell? ⟨w.heap.size + 1, 0, none⟩ = some (.bool a1_0) := (blk_cell X1.out 0).trans rfl
 have y1 : w0.cell? ⟨w.heap.size + 1, 1, none⟩ = some (.slice A1_1 l1_1.length c1_1) := (blk_cell X1.out 1).trans rfl
 obtain ⟨d, hd⟩ : ∃ d, decide (0 < l1_1.length) = d := ⟨_, rfl⟩
 have hd2 : decide ((0 : Int) < (l1_1.length : Int)) = d := by rw [← hd]; simp
 have hd3 : decide ((l1_1.length : Int) > 0) = d := hd2
 rw [hd] at h
 have E := Aside0.mk hd
 obtain ⟨nb, hnb⟩ : ∃ nb, (!a1_0 && d) = nb := ⟨_, rfl⟩
 rw [hnb] at h
 have HH := Aside0.mk h
 have HZ := Aside0.mk hsz
 clear h hsz
 cases a1_0 with
 | true =>
  simp only [Bool.not_true, Bool.false_and] at hnb
  subst hnb
  go_wp2_with fail
  refine (maskref4_Dec_Plus.calls k a0_0 A0_1 c0_1 l0_1 false A1_1 c1_1 l1_1 r1 r2 _ R0.out hc0_1 R1.out hc1_1 HH.out).mono ?_
  rintro e w1 ⟨v, rfl, hV, hw⟩
  obtain ⟨Av, cv, rfl⟩ := Kd.V_slice hV
  replace HB := Aside0.mk (below_step HB.out hw)
  replace X2 := Aside0.mk (blk_below X2.out hw)
  clear x0 x1 y0 y1 hw
  have z0 : w1.cell? ⟨w.heap.size + 1 + 1, 0, none⟩ = some (.bool false) := (blk_cell X2.out 0).trans rfl
  have z1 : w1.cell? ⟨w.heap.size + 1 + 1, 1, none⟩ = some (.slice none 0 0) := (blk_cell X2.out 1).trans rfl
  have y0 : w1.frozen? ⟨w.heap.size + 1 + 1, 0, none⟩ = false := blk_frozen X2.out 0
  have y1 : w1.frozen? ⟨w.heap.size + 1 + 1, 1, none⟩ = false := blk_frozen X2.out 1
  go_wp2
  refine bodyPost_ret (results_cell_row rfl _ _ (w.heap.size + 1 + 1) 36 #[.bool r1, .slice Av r2.length cv] (0, 0) _ rfl (blk_put (cs := #[.bool r1, .slice none 0 0]) (blk_put (cs := #[.bool false, .slice none 0 0]) X2.out 0 _ rfl) 1 _ rfl) Try.underlying36 rfl (by kernel_rfl)) rfl ?_
  exact ⟨_, rfl, outW hV (fun k hk => by have := HZ.out; omega) _ _ (fun k hk => by have := HZ.out; omega), below_set (below_set HB.out (by omega)) (by omega)⟩
 | false =>
  simp only [Bool.not_false, Bool.true_and] at hnb
  subst hnb
  cases d with
  | true =>
   go_wp2_with fail
   refine (maskref4_Dec_Plus.calls k a0_0 A0_1 c0_1 l0_1 true A1_1 c1_1 l1_1 r1 r2 _ R0.out hc0_1 R1.out hc1_1 HH.out).mono ?_
   rintro e w1 ⟨v, rfl, hV, hw⟩
   obtain ⟨Av, cv, rfl⟩ := Kd.V_slice hV
   replace HB := Aside0.mk (below_step HB.out hw)
   replace X2 := Aside0.mk (blk_below X2.out hw)
   clear x0 x1 y0 y1 hw
   have z0 : w1.cell? ⟨w.heap.size + 1 + 1, 0, none⟩ = some (.bool false) := (blk_cell X2.out 0).trans rfl
   have z1 : w1.cell? ⟨w.heap.size + 1 + 1, 1, none⟩ = some (.slice none 0 0) := (blk_cell X2.out 1).trans rfl
   have y0 : w1.frozen? ⟨w.heap.size + 1 + 1, 0, none⟩ = false := blk_frozen X2.out 0
   have y1 : w1.frozen? ⟨w.heap.size + 1 + 1, 1, none⟩ = false := blk_frozen X2.out 1
   go_wp2
   refine bodyPost_ret (results_cell_row rfl _ _ (w.heap.size + 1 + 1) 36 #[.bool r1, .slice Av r2.length cv] (0, 0) _ rfl (blk_put (cs := #[.bool r1, .slice none 0 0]) (blk_put (cs := #[.bool false, .slice none 0 0]) X2.out 0 _ rfl) 1 _ rfl) Try.underlying36 rfl (by kernel_rfl)) rfl ?_
   exact ⟨_, rfl, outW hV (fun k hk => by have := HZ.out; omega) _ _ (fun k hk => by have := HZ.out; omega), below_set (below_set HB.out (by omega)) (by omega)⟩
  | false =>
   go_wp2_with fail
   refine (maskref4_Dec_Plus.calls k a0_0 A0_1 c0_1 l0_1 false A1_1 c1_1 l1_1 r1 r2 _ R0.out hc0_1 R1.out hc1_1 HH.out).mono ?_
   rintro e w1 ⟨v, rfl, hV, hw⟩
   obtain ⟨Av, cv, rfl⟩ := Kd.V_slice hV
   replace HB := Aside0.mk (below_step HB.out hw)
   replace X2 := Aside0.mk (blk_below X2.out hw)
   clear x0 x1 y0 y1 hw
   have z0 : w1.cell? ⟨w.heap.size + 1 + 1, 0, none⟩ = some (.bool false) := (blk_cell X2.out 0).trans rfl
   have z1 : w1.cell? ⟨w.heap.size + 1 + 1, 1, none⟩ = some (.slice none 0 0) := (blk_cell X2.out 1).trans rfl
   have y0 : w1.frozen? ⟨w.heap.size + 1 + 1, 0, none⟩ = false := blk_frozen X2.out 0
   have y1 : w1.frozen? ⟨w.heap.size + 1 + 1, 1, none⟩ = false := blk_frozen X2.out 1
   go_wp2
   refine bodyPost_ret (results_cell_row rfl _ _ (w.heap.size + 1 + 1) 36 #[.bool r1, .slice Av r2.length cv] (0, 0) _ rfl (blk_put (cs := #[.bool r1, .slice none 0 0]) (blk_put (cs := #[.bool false, .slice none 0 0]) X2.out 0 _ rfl) 1 _ rfl) Try.underlying36 rfl (by kernel_rfl)) rfl ?_
   exact ⟨_, rfl, outW hV (fun k hk => by have := HZ.out; omega) _ _ (fun k hk => by have := HZ.out; omega), below_set (below_set HB.out (by omega)) (by omega)⟩

end Go.Proofs.Ytlbljdjbcbgnlaa.PX
namespace Go.Proofs.Ytlbljdjbcbgnlaa.PX
open Go.RowKit Go.Proofs.YtlbljdjbcbgnlaaW.PrintWords Go.Proofs.YtlbljdjbcbgnlaaW.PrintLast Go.Proofs.YtlbljdjbcbgnlaaW.PrintMore
attribute [local go_sem] max2_int min2_int max_two min_two max_three min_three max_four min_four   -- for this text's walks alone
private theorem z1 {α : Type} {l : List α} {i : Nat} {a : α} : l.toArray.setIfInBounds i a = (l.set i a).toArray := List.setIfInBounds_toArray _ _ _
private theorem z2 {α : Type} {x : α} {xs : List α} {a : α} : (x :: xs).set 0 a = a :: xs := List.set_cons_zero
private theorem z3 {α : Type} {x : α} {xs : List α} {n : Nat} {a : α} : (x :: xs).set (n + 1) a = x :: xs.set n a := List.set_cons_succ
private abbrev zb (n m : Nat) : Array Bool := (List.replicate n true ++ List.replicate m false).toArray
set_option linter.unusedVariables false
set_option linter.unusedSimpArgs false

/-! ### maskref4_Dec_Split: function 42 -/
mutual
def maskref4_Dec_Split.l0 : Nat → List Int → Int → Bool → List Int → Bool → List Int → Bool → List Int → Bool → List Int → Option (Bool × List Int × Bool × List Int)
 | 0, _, _, _, _, _, _, _, _, _, _ => none
 | k + 1, x6, x9, x311000, x311001, x312000, x312001, x315000, x315001, x316000, x316001 => if x9 ≥ 0 then (if 0 ≤ x9 then (if x9 < (x311001.length : Int) then ((some (([rd x311001 x9] : List Int) : List Int)).bind fun y317 => (if y317.length + x315001.length < 17592186044416 then ((maskref4_trim.f false (y317 ++ x315001)).bind fun bt323 => (maskref4_Dec_Split.l1 k x6 x9 0 x311000 x311001 x312000 x312001 bt323.1 bt323.2 x316000 x316001)) else (none))) else (none)) else (none)) else ((maskref4_trim.f (x311000 != x312000) x6).bind fun bt338 => (if x311000 = true then (maskref4_Dec_Split.j2 k (decide ((x315001.length : Int) > 0)) x312000 x312001 x315000 x315001 x316000 x316001 bt338.1 bt338.2) else (maskref4_Dec_Split.j2 k false x312000 x312001 x315000 x315001 x316000 x316001 bt338.1 bt338.2)))
def maskref4_Dec_Split.l1 : Nat → List Int → Int → Int → Bool → List Int → Bool → List Int → Bool → List Int → Bool → List Int → Option (Bool × List Int × Bool × List Int)
 | 0, _, _, _, _, _, _, _, _, _, _, _ => none
 | k + 1, x6, x9, x10, x311000, x311001, x312000, x312001, x315000, x315001, x316000, x316001 => (maskref4_less.f k x315001 x316001).bind fun t327 => (if t327 = true then ((some (([x10] : List Int) : List Int)).bind fun y328 => (if y328.length + x6.length < 17592186044416 then (maskref4_Dec_Split.l0 k (y328 ++ x6) (wrap64 (x9 - 1)) x311000 x311001 x312000 x312001 x315000 x315001 x316000 x316001) else (none))) else ((maskref4_Dec_Minus.f k x315000 x315001 x316000 x316001).bind fun bt334 => (maskref4_Dec_Split.l1 k x6 x9 (wrap64 (x10 + 1)) x311000 x311001 x312000 x312001 bt334.1 bt334.2 x316000 x316001)))
def maskref4_Dec_Split.j2 : Nat → Bool → Bool → List Int → Bool → List Int → Bool → List Int → Bool → List Int → Option (Bool × List Int × Bool × List Int)
 | 0, _, _, _, _, _, _, _, _, _ => none
 | k + 1, x63, x312000, x312001, x315000, x315001, x316000, x316001, x343000, x343001 => if x63 = true then ((maskref4_Dec_Minus.f k x316000 x316001 x315000 x315001).bind fun bt343 => (if x312000 = true then ((maskref4_DecInt.f k 1).bind fun bt347 => ((maskref4_Dec_Plus.f k x343000 x343001 bt347.1 bt347.2).bind fun bt351 => (some (bt351.1, bt351.2, bt343.1, bt343.2)))) else ((maskref4_DecInt.f k 1).bind fun bt355 => ((maskref4_Dec_Minus.f k x343000 x343001 bt355.1 bt355.2).bind fun bt359 => (some (bt359.1, bt359.2, bt343.1, bt343.2)))))) else (some (x343000, x343001, x315000, x315001))
end
def maskref4_Dec_Split.f (k : Nat) (a0_0 : Bool) (l0_1 : List Int) (a1_0 : Bool) (l1_1 : List Int) : Option (Bool × List Int × Bool × List Int) := maskref4_Dec_Split.l0 k ([] : List Int) (wrap64 ((l0_1.length : Int) - 1)) a0_0 l0_1 a1_0 l1_1 false ([] : List Int) false l1_1
theorem maskref4_Dec_Split.mono_l : ∀ k, (∀ y0 y1 y2 y3 y4 y5 y6 y7 y8 y9, LeO (maskref4_Dec_Split.l0 k y0 y1 y2 y3 y4 y5 y6 y7 y8 y9) (maskref4_Dec_Split.l0 (k + 1) y0 y1 y2 y3 y4 y5 y6 y7 y8 y9)) ∧ (∀ y0 y1 y2 y3 y4 y5 y6 y7 y8 y9 y10, LeO (maskref4_Dec_Split.l1 k y0 y1 y2 y3 y4 y5 y6 y7 y8 y9 y10) (maskref4_Dec_Split.l1 (k + 1) y0 y1 y2 y3 y4 y5 y6 y7 y8 y9 y10)) ∧ (∀ y0 y1 y2 y3 y4 y5 y6 y7 y8, LeO (maskref4_Dec_Split.j2 k y0 y1 y2 y3 y4 y5 y6 y7 y8) (maskref4_Dec_Split.j2 (k + 1) y0 y1 y2 y3 y4 y5 y6 y7 y8))
 | 0 => ⟨fun _ _ _ _ _ _ _ _ _ _ r h => by simp [maskref4_Dec_Split.l0] at h, fun _ _ _ _ _ _ _ _ _ _ _ r h => by simp [maskref4_Dec_Split.l1] at h, fun _ _ _ _ _ _ _ _ _ r h => by simp [maskref4_Dec_Split.j2] at h⟩
 | k + 1 => by
  obtain ⟨ih0, ih1, ih2⟩ := maskref4_Dec_Split.mono_l k
  refine ⟨?_, ?_, ?_⟩
  · intro y0 y1 y2 y3 y4 y5 y6 y7 y8 y9
    unfold maskref4_Dec_Split.l0
    repeat' first
    | (with_reducible exact ih1 _ _ _ _ _ _ _ _ _ _ _)
    | (with_reducible exact ih2 _ _ _ _ _ _ _ _ _)
    | (with_reducible exact LeO.refl _)
    | (with_reducible exact LeO.none _)
    | (with_reducible refine LeO.ite ?_ ?_)
    | (with_reducible refine LeO.bind ?_ (fun _ => ?_))
  · intro y0 y1 y2 y3 y4 y5 y6 y7 y8 y9 y10
    unfold maskref4_Dec_Split.l1
    repeat' first
    | (with_reducible exact ih0 _ _ _ _ _ _ _ _ _ _)
    | (with_reducible exact ih1 _ _ _ _ _ _ _ _ _ _ _)
    | (with_reducible exact maskref4_Dec_Minus.mono _ _ _ _ _)
    | (with_reducible exact maskref4_less.mono _ _ _)
    | (with_reducible exact LeO.refl _)
    | (with_reducible exact LeO.none _)
    | (with_reducible refine LeO.ite ?_ ?_)
    | (with_reducible refine LeO.bind ?_ (fun _ => ?_))
  · intro y0 y1 y2 y3 y4 y5 y6 y7 y8
    unfold maskref4_Dec_Split.j2
    repeat' first
    | (with_reducible exact maskref4_DecInt.mono _ _)
    | (with_reducible exact maskref4_Dec_Minus.mono _ _ _ _ _)
    | (with_reducible exact maskref4_Dec_Plus.mono _ _ _ _ _)
    | (with_reducible exact LeO.refl _)
    | (with_reducible exact LeO.none _)
    | (with_reducible refine LeO.ite ?_ ?_)
    | (with_reducible refine LeO.bind ?_ (fun _ => ?_))
theorem maskref4_Dec_Split.mono : ∀ a0 a1 a2 a3 k, LeO (maskref4_Dec_Split.f k a0 a1 a2 a3) (maskref4_Dec_Split.f (k + 1) a0 a1 a2 a3) := by
 intro a0 a1 a2 a3 k
 obtain ⟨ih0, ih1, ih2⟩ := maskref4_Dec_Split.mono_l k
 unfold maskref4_Dec_Split.f
 repeat' first
  | (with_reducible exact ih0 _ _ _ _ _ _ _ _ _ _)
  | (with_reducible exact LeO.refl _)
  | (with_reducible exact LeO.none _)
  | (with_reducible refine LeO.ite ?_ ?_)
  | (with_reducible refine LeO.bind ?_ (fun _ => ?_))
def maskref4_Dec_Split.T7 : Bool × List (List Nat × List Nat) := (true, [([], []), ([0], [0]), ([], []), ([1, 2], [1, 2]), ([3], [3]), ([4], [4]), ([], []), ([6], [6]), ([5, 7], [5, 7]), ([8, 8], [8]), ([9, 9, 0, 1, 2, 3, 4, 5, 6, 7, 8, 9], [9])])
def maskref4_Dec_Split.B7 : List Nat := [0, 1, 0, 7, 15, 31, 0, 64, 255, 511, 1023]
theorem maskref4_Dec_Split.tab7 : rtab .any (opsOf Try.f42 7) = maskref4_Dec_Split.T7 := by kernel_rfl
theorem maskref4_Dec_Split.bits7 : waitsOk maskref4_Dec_Split.T7.2 maskref4_Dec_Split.B7 = true := by kernel_rfl
set_option maxHeartbeats 8000000 in
set_option maxRecDepth 100000 in
theorem maskref4_Dec_Split.calls (k : Nat) (a0_0 : Bool) (A0_1 : Option Addr) (c0_1 : Nat) (l0_1 : List Int) (a1_0 : Bool) (A1_1 : Option Addr) (c1_1 : Nat) (l1_1 : List Int) (r1 : Bool) (r2 : List Int) (r3 : Bool) (r4 : List Int) (w : World) (hr0_1 : Kd.C (Kd.int .i64) w A0_1 l0_1.length l0_1) (hc0_1 : l0_1.length ≤ c0_1) (hr1_1 : Kd.C (Kd.int .i64) w A1_1 l1_1.length l1_1) (hc1_1 : l1_1.length ≤ c1_1) (h : maskref4_Dec_Split.f k a0_0 l0_1 a1_0 l1_1 = some (r1, r2, r3, r4)) :
 Calls Try.prog 42 #[.agg #[.bool a0_0, .slice A0_1 l0_1.length c0_1], .agg #[.bool a1_0, .slice A1_1 l1_1.length c1_1]] w fun e w' => ∃ v1_ v3_ : Value, e = .returned (.tuple #[.agg #[.bool r1, v1_], .agg #[.bool r3, v3_]]) ∧ Kd.V (Kd.int .i64) 3 w' w.heap.size (fun k_ => (w.heap.size ≤ k_)) v1_ r2 ∧ Kd.V (Kd.int .i64) 3 w' w.heap.size (fun k_ => (w.heap.size ≤ k_)) v3_ r4 ∧ Below w.heap.size w w' := by
 have HR0_1 := Aside0.mk hr0_1
 clear hr0_1 hc0_1
 have HR1_1 := Aside0.mk hr1_1
 have HC1_1 := Aside0.mk hc1_1
 clear hr1_1 hc1_1
 have HB := Aside0.mk (Below.refl w.heap.size w)
 have H : (maskref4_Dec_Split.l0 k ([] : List Int) (wrap64 ((l0_1.length : Int) - 1)) a0_0 l0_1 a1_0 l1_1 false ([] : List Int) false l1_1) = some (r1, r2, r3, r4) := h
 clear h
 have H' := Aside0.mk H
 clear H
 go_enter Try.func42, Try.ntmps42
 go_wp2_with (first | ((with_reducible refine gate_dst (N := 2) rfl ?_); (try (refine gate_guard (by rfl) ?_; dsimp only)); refine box_event ?hg (N := 2) ?hd (cs := #[.bool a0_0, .slice A0_1 l0_1.length c0_1]) (t := 36) ?hr ?_; (case hd => rfl); (case hg => rfl); (case hr => first | (go_simp; done) | (go_simp; rfl)); intro gb310 hg w3 hbox hb; have BK310 := Aside0.mk (hbox); replace HB := Aside0.mk (below_step bl hb); clear hb hbox hg) | ((with_reducible refine gate_dst (N := 3) rfl ?_); (try (refine gate_guard (by rfl) ?_; dsimp only)); refine box_event ?hg (N := 3) ?hd (cs := #[.bool a1_0, .slice A1_1 l1_1.length c1_1]) (t := 36) ?hr ?_; (case hd => rfl); (case hg => rfl); (case hr => first | (go_simp; done) | (go_simp; rfl)); intro gb311 hg w4 hbox hb; have BK311 := Aside0.mk (hbox); replace HB := Aside0.mk (below_step bl hb); have NB310_311 := Aside0.mk (nl hg (bk BK310.out)); have NB311_310 := Aside0.mk (ng hg (bk BK310.out)); replace BK310 := Aside0.mk (bb BK310.out hb); clear hb hbox hg) | ((with_reducible refine gate_dst (N := 4) rfl ?_); (try (refine gate_guard (by rfl) ?_; dsimp only)); refine box_event ?hg (N := 4) ?hd (cs := #[.bool false, .slice none 0 0]) (t := 36) ?hr ?_; (case hd => rfl); (case hg => rfl); (case hr => first | (go_simp; done) | (go_simp; rfl)); intro gb312 hg w5 hbox hb; have BK312 := Aside0.mk (hbox); have GE312 := Aside0.mk (ge (w := w) hg); replace HB := Aside0.mk (below_step bl hb); have NB310_312 := Aside0.mk (nl hg (bk BK310.out)); have NB312_310 := Aside0.mk (ng hg (bk BK310.out)); replace BK310 := Aside0.mk (bb BK310.out hb); have NB311_312 := Aside0.mk (nl hg (bk BK311.out)); have NB312_311 := Aside0.mk (ng hg (bk BK311.out)); replace BK311 := Aside0.mk (bb BK311.out hb); clear hb hbox hg) | ((with_reducible refine gate_dst (N := 5) rfl ?_); (try (refine gate_guard (by rfl) ?_; dsimp only)); refine box_event ?hg (N := 5) ?hd (cs := #[.bool false, .slice none 0 0]) (t := 36) ?hr ?_; (case hd => rfl); (case hg => rfl); (case hr => first | (go_simp; done) | (go_simp; rfl)); intro gb313 hg w6 hbox hb; have BK313 := Aside0.mk (hbox); have GE313 := Aside0.mk (ge (w := w) hg); replace HB := Aside0.mk (below_step bl hb); have NB310_313 := Aside0.mk (nl hg (bk BK310.out)); have NB313_310 := Aside0.mk (ng hg (bk BK310.out)); replace BK310 := Aside0.mk (bb BK310.out hb); have NB311_313 := Aside0.mk (nl hg (bk BK311.out)); have NB313_311 := Aside0.mk (ng hg (bk BK311.out)); replace BK311 := Aside0.mk (bb BK311.out hb); have NB312_313 := Aside0.mk (nl hg (bk BK312.out)); have NB313_312 := Aside0.mk (ng hg (bk BK312.out)); replace BK312 := Aside0.mk (bb BK312.out hb); clear hb hbox hg) | ((with_reducible refine gate_dst (N := 7) rfl ?_); (try (refine gate_guard (by rfl) ?_; dsimp only)); refine box_event ?hg (N := 7) ?hd (cs := #[.bool false, .slice none 0 0]) (t := 36) ?hr ?_; (case hd => rfl); (case hg => rfl); (case hr => first | (go_simp; done) | (go_simp; rfl)); intro gb314 hg w7 hbox hb; have BK314 := Aside0.mk (hbox); have GE314 := Aside0.mk (ge (w := w) hg); replace HB := Aside0.mk (below_step bl hb); have NB310_314 := Aside0.mk (nl hg (bk BK310.out)); have NB314_310 := Aside0.mk (ng hg (bk BK310.out)); replace BK310 := Aside0.mk (bb BK310.out hb); have NB311_314 := Aside0.mk (nl hg (bk BK311.out)); have NB314_311 := Aside0.mk (ng hg (bk BK311.out)); replace BK311 := Aside0.mk (bb BK311.out hb); have NB312_314 := Aside0.mk (nl hg (bk BK312.out)); have NB314_312 := Aside0.mk (ng hg (bk BK312.out)); replace BK312 := Aside0.mk (bb BK312.out hb); have NB313_314 := Aside0.mk (nl hg (bk BK313.out)); have NB314_313 := Aside0.mk (ng hg (bk BK313.out)); replace BK313 := Aside0.mk (bb BK313.out hb); clear hb hbox hg; have hnc9 := NB311_314.out; have hnb10 := NB314_312.out; have hnc10 := NB312_314.out; have hnb11 := NB314_313.out; have hnc11 := NB313_314.out; obtain ⟨hcz12_0, hcz12_1, hfz12_0, hfz12_1⟩ := bz2 BK314.out; have hnb13 := NB311_310.out; have hnc13 := NB310_311.out; have hnb14 := NB311_312.out; have hnc14 := NB312_311.out; have hnb15 := NB311_313.out; have hnc15 := NB313_311.out; obtain ⟨hcz16_0, hcz16_1, hfz16_0, hfz16_1⟩ := bz2 BK311.out) | ((with_reducible refine gate_dst (N := 8) rfl ?_); (try (refine gate_guard (by rfl) ?_; dsimp only)); refine box_event ?hg (N := 8) ?hd (cs := #[.bool false, .slice none 0 0]) (t := 36) ?hr ?_; (case hd => rfl); (case hg => rfl); (case hr => first | (go_simp; done) | (go_simp; rfl)); intro gb315 hg w17 hbox hb; have BK315 := Aside0.mk (hbox); have GE315 := Aside0.mk (ge (w := w) hg); replace HB := Aside0.mk (below_step bl hb); have NB310_315 := Aside0.mk (nl hg (bf BK310.out)); have NB315_310 := Aside0.mk (ng hg (bf BK310.out)); replace BK310 := Aside0.mk (blk_below (bf BK310.out) hb); have NB311_315 := Aside0.mk (nl hg (bf BK311.out)); have NB315_311 := Aside0.mk (ng hg (bf BK311.out)); replace BK311 := Aside0.mk (blk_below (bf BK311.out) hb); have NB312_315 := Aside0.mk (nl hg (bf BK312.out)); have NB315_312 := Aside0.mk (ng hg (bf BK312.out)); replace BK312 := Aside0.mk (blk_below (bf BK312.out) hb); have NB313_315 := Aside0.mk (nl hg (bf BK313.out)); have NB315_313 := Aside0.mk (ng hg (bf BK313.out)); replace BK313 := Aside0.mk (blk_below (bf BK313.out) hb); have NB314_315 := Aside0.mk ((by rw [hg]; exact Nat.ne_of_lt (blk_lt (g := gb314) (o := .cells #[.bool false, .slice none 0 0] 36 (0, 0)) (by (with_reducible repeat (first | refine blk_drewN ?_ _ | refine blk_drew ?_ | refine blk_alloc ?_ _)); refine blk_put (cs := #[.bool false, .slice none 0 0]) ?_ 1 _ rfl; (with_reducible repeat (first | refine blk_drewN ?_ _ | refine blk_drew ?_ | refine blk_alloc ?_ _)); refine blk_put (cs := #[.bool false, .slice none 0 0]) ?_ 0 _ rfl; (with_reducible repeat (first | refine blk_drewN ?_ _ | refine blk_drew ?_ | refine blk_alloc ?_ _)); exact BK314.out)) : gb314 ≠ gb315)); have NB315_314 := Aside0.mk ((by rw [hg]; exact Nat.ne_of_gt (blk_lt (g := gb314) (o := .cells #[.bool false, .slice none 0 0] 36 (0, 0)) (by (with_reducible repeat (first | refine blk_drewN ?_ _ | refine blk_drew ?_ | refine blk_alloc ?_ _)); refine blk_put (cs := #[.bool false, .slice none 0 0]) ?_ 1 _ rfl; (with_reducible repeat (first | refine blk_drewN ?_ _ | refine blk_drew ?_ | refine blk_alloc ?_ _)); refine blk_put (cs := #[.bool false, .slice none 0 0]) ?_ 0 _ rfl; (with_reducible repeat (first | refine blk_drewN ?_ _ | refine blk_drew ?_ | refine blk_alloc ?_ _)); exact BK314.out)) : gb315 ≠ gb314)); replace BK314 := Aside0.mk (blk_below (g := gb314) (o := .cells #[.bool false, .slice none 0 0] 36 (0, 0)) (by (with_reducible repeat (first | refine blk_drewN ?_ _ | refine blk_drew ?_ | refine blk_alloc ?_ _)); refine blk_put (cs := #[.bool false, .slice none 0 0]) ?_ 1 _ rfl; (with_reducible repeat (first | refine blk_drewN ?_ _ | refine blk_drew ?_ | refine blk_alloc ?_ _)); refine blk_put (cs := #[.bool false, .slice none 0 0]) ?_ 0 _ rfl; (with_reducible repeat (first | refine blk_drewN ?_ _ | refine blk_drew ?_ | refine blk_alloc ?_ _)); exact BK314.out) hb); clear hb hbox hg; have hnc18 := NB310_315.out; have hnb19 := NB315_311.out; have hnc19 := NB311_315.out; have hnb20 := NB315_312.out; have hnc20 := NB312_315.out; have hnb21 := NB315_313.out; have hnc21 := NB313_315.out; have hnb22 := NB315_314.out; have hnc22 := NB314_315.out; obtain ⟨hcz23_0, hcz23_1, hfz23_0, hfz23_1⟩ := bz2 BK315.out; have hnb24 := NB310_312.out; have hnc24 := NB312_310.out; have hnb25 := NB310_313.out; have hnc25 := NB313_310.out; obtain ⟨hcz26_0, hcz26_1, hfz26_0, hfz26_1⟩ := bz2 BK310.out))
 go_loopg [6, 9] k (fun kq v6 v9 w' => ∃ (x6_1 : List Int) (x9_1 : Int) (x315000_1 : Bool) (x315001_1 : List Int) (u315001 : Value), v9 = .int .i64 x9_1 ∧ Aside0 (maskref4_Dec_Split.l0 kq x6_1 x9_1 a0_0 l0_1 a1_0 l1_1 x315000_1 x315001_1 false l1_1 = some (r1, r2, r3, r4)) ∧ Aside0 (kq ≤ k) ∧ Aside0 (Kd.R (Kd.int .i64) 3 w' w.heap.size (fun k_ => (w.heap.size ≤ k_)) v6 x6_1) ∧ Aside0 (Kd.V (Kd.int .i64) 3 w' w.heap.size (fun k_ => (w.heap.size ≤ k_) ∧ some k_ ≠ (v6 : Value).ownBlock ∧ k_ ≠ gb310 ∧ k_ ≠ gb311 ∧ k_ ≠ gb312 ∧ k_ ≠ gb313 ∧ k_ ≠ gb314 ∧ k_ ≠ gb315) u315001 x315001_1) ∧ Aside0 (w'.heap[gb310]? = some (.cells #[.bool a0_0, (.slice A0_1 l0_1.length c0_1)] 36 (0, 0))) ∧ Aside0 (w'.heap[gb311]? = some (.cells #[.bool a1_0, (.slice A1_1 l1_1.length c1_1)] 36 (0, 0))) ∧ Aside0 (w'.heap[gb312]? = some (.cells #[.bool false, (.slice none 0 0)] 36 (0, 0))) ∧ Aside0 (w'.heap[gb313]? = some (.cells #[.bool false, (.slice none 0 0)] 36 (0, 0))) ∧ Aside0 (w'.heap[gb314]? = some (.cells #[.bool x315000_1, u315001] 36 (0, 0))) ∧ Aside0 (w'.heap[gb315]? = some (.cells #[.bool false, (.slice A1_1 l1_1.length c1_1)] 36 (0, 0))) ∧ Aside0 (Below w.heap.size w w'))
 case atStart => exact ⟨(([] : List Int)), (wrap64 ((l0_1.length : Int) - 1)), (false), (([] : List Int)), (.slice none 0 0), (by first | rfl | (simp; done) | (simp [*]; done)), H', ⟨Nat.le_refl _⟩, ⟨by first | exact Kd.R_nil _ _ _ _ _ | exact Kd.N_nil _ _ _ _ _ | exact Kd.V_nil _ _ _ _ _ | exact Kd.Q_nil _ _ _ _ _ | exact Kd.S_nil _ _ _ _ _⟩, ⟨Kd.V_nil _ _ _ _ _⟩, ⟨bf BK310.out⟩, ⟨bf BK311.out⟩, ⟨bf BK312.out⟩, ⟨bf BK313.out⟩, ⟨bf BK314.out⟩, ⟨by (with_reducible repeat (first | refine blk_drewN ?_ _ | refine blk_drew ?_ | refine blk_alloc ?_ _)); refine blk_put (cs := #[.bool false, .slice none 0 0]) ?_ 1 _ rfl; (with_reducible repeat (first | refine blk_drewN ?_ _ | refine blk_drew ?_ | refine blk_alloc ?_ _)); refine blk_put (cs := #[.bool false, .slice none 0 0]) ?_ 0 _ rfl; (with_reducible repeat (first | refine blk_drewN ?_ _ | refine blk_drew ?_ | refine blk_alloc ?_ _)); exact BK315.out⟩, ⟨bl⟩⟩
 clear H'
 clear hcz12_0 hcz12_1 hcz16_0 hcz16_1 hcz23_0 hcz23_1 hcz26_0 hcz26_1 hfz12_0 hfz12_1 hfz16_0 hfz16_1 hfz23_0 hfz23_1 hfz26_0 hfz26_1
 obtain ⟨x6_1, x9_1, x315000_1, x315001_1, u315001, rfl, HA, HK1, HO_6, HO_315001, BK310, BK311, BK312, BK313, BK314, BK315, HB⟩ := hrel
 cases gk with
 | zero => exact absurd HA.out (by simp [maskref4_Dec_Split.l0])
 | succ k1 =>
  have H := HA.out
  clear HA
  simp only [maskref4_Dec_Split.l0] at H
  by_cases c27 : x9_1 ≥ 0
  · rw [if_pos c27] at H
    have c27b0 : decide (0 ≤ x9_1) = true := decide_eq_true c27
    clear c27
    by_cases c28 : 0 ≤ x9_1
    rotate_left
    · rw [if_neg c28] at H
      exact absurd H (by simp)
    rw [if_pos c28] at H
    have c28b0 : decide (0 ≤ x9_1) = true := decide_eq_true c28
    clear c28
    by_cases c29 : x9_1 < (l0_1.length : Int)
    rotate_left
    · rw [if_neg c29] at H
      exact absurd H (by simp)
    rw [if_pos c29] at H
    have c29b0 : decide (x9_1 < (l0_1.length : Int)) = true := decide_eq_true c29
    clear c29
    obtain ⟨y317, hy317⟩ : ∃ y_ : List Int, y_ = (([rd l0_1 x9_1] : List Int)) := ⟨_, rfl⟩
    replace H : (if y317.length + x315001_1.length < 17592186044416 then ((maskref4_trim.f false (y317 ++ x315001_1)).bind fun bt323 => (maskref4_Dec_Split.l1 k1 x6_1 x9_1 0 a0_0 l0_1 a1_0 l1_1 bt323.1 bt323.2 false l1_1)) else (none)) = some (r1, r2, r3, r4) := by first | (rw [hy317]; with_reducible exact H) | (have H2_ := (Option.bind_some _ _).symm.trans H; rw [hy317]; with_reducible exact H2_) | (have H2_ := (Option.bind_some _ _).symm.trans H; with_reducible exact H2_) | with_reducible exact H | (rw [hy317]; exact H) | exact H
    have Ny317 := Aside0.mk hy317
    clear hy317
    by_cases c30 : y317.length + x315001_1.length < 17592186044416
    rotate_left
    · rw [if_neg c30] at H
      exact absurd H (by simp)
    rw [if_pos c30] at H
    have LMc30 := Aside0.mk c30
    clear c30
    obtain ⟨y320, hy320⟩ : ∃ y_ : List Int, y_ = (y317 ++ x315001_1) := ⟨_, rfl⟩
    replace H : ((maskref4_trim.f false y320).bind fun bt323 => (maskref4_Dec_Split.l1 k1 x6_1 x9_1 0 a0_0 l0_1 a1_0 l1_1 bt323.1 bt323.2 false l1_1)) = some (r1, r2, r3, r4) := by first | (rw [hy320]; with_reducible exact H) | (have H2_ := (Option.bind_some _ _).symm.trans H; rw [hy320]; with_reducible exact H2_) | (have H2_ := (Option.bind_some _ _).symm.trans H; with_reducible exact H2_) | with_reducible exact H | (rw [hy320]; exact H) | exact H
    have Ny320 := Aside0.mk hy320
    clear hy320
    replace H := Option.bind_eq_some_iff.mp H
    obtain ⟨⟨t323, t324⟩, A310, H⟩ := H
    replace H : (maskref4_Dec_Split.l1 k1 x6_1 x9_1 0 a0_0 l0_1 a1_0 l1_1 t323 t324 false l1_1) = some (r1, r2, r3, r4) := H
    have A31 := Aside0.mk A310
    clear A310
    have H' := Aside0.mk H
    clear H
    try go_wp2
    have n0_ := Aside0.mk (Kd.R_drew HO_6.out)
    have n1_ := Aside0.mk (Kd.V_drew HO_315001.out)
    have n2_ := Aside0.mk (blk_drew BK310.out)
    have n3_ := Aside0.mk (blk_drew BK311.out)
    have n4_ := Aside0.mk (blk_drew BK312.out)
    have n5_ := Aside0.mk (blk_drew BK313.out)
    have n6_ := Aside0.mk (blk_drew BK314.out)
    have n7_ := Aside0.mk (blk_drew BK315.out)
    have n8_ := Aside0.mk (below_drew1 HB.out)
    clear HO_6
    clear HO_315001
    clear BK310
    clear BK311
    clear BK312
    clear BK313
    clear BK314
    clear BK315
    clear HB
    have HO_6 := n0_
    have HO_315001 := n1_
    have BK310 := n2_
    have BK311 := n3_
    have BK312 := n4_
    have BK313 := n5_
    have BK314 := n6_
    have BK315 := n7_
    have HB := n8_
    clear n0_ n1_ n2_ n3_ n4_ n5_ n6_ n7_ n8_
    have p316 : 0 ≤ (x9_1 : Int) := of_decide_eq_true (by first | (with_reducible assumption) | assumption)
    have q316 : x9_1 < (l0_1.length : Int) := of_decide_eq_true (by first | (with_reducible assumption) | assumption)
    obtain ⟨ad316, e316, hx316_0⟩ := Kd.at_int HR0_1.out x9_1 p316 q316
    have hw316_0 := hx316_0
    cases e316
    replace hx316_0 := hc HB.out hx316_0
    replace p316 := eq_true p316
    replace q316 := eq_true q316
    refine start_ (n := 11) (S := fun w' => w'.cell? ⟨gb310, 0, none⟩ = some (.bool a0_0) ∧ w'.cell? ⟨gb310, 1, none⟩ = some (.slice (some ad316) l0_1.length c0_1) ∧ w'.cell? ⟨gb314, 0, none⟩ = some (.bool x315000_1) ∧ w'.cell? ⟨gb314, 1, none⟩ = some (u315001) ∧ w'.cell? (ad316.add (x9_1).toNat) = some (.int .i64 (rd l0_1 x9_1))) (ds := [10]) (zb 0 11) (by kernel_rfl) rfl rfl ⟨(blk_cell BK310.out 0).trans rfl, (blk_cell BK310.out 1).trans rfl, (blk_cell BK314.out 0).trans rfl, (blk_cell BK314.out 1).trans rfl, (hc HB.out hw316_0)⟩ (fun hHeld => ?_); refine with_tabW maskref4_Dec_Split.tab7 maskref4_Dec_Split.bits7 (fun HT_ HW_ => ?_)
    generalize wr.drew = w32 at HO_6 HO_315001 BK310 BK311 BK312 BK313 BK314 BK315 HB hx316_0 hHeld ⊢
    refine pure_ (i := 0) (N := some 24) (v := ?_) (a' := ?_) (zb 1 10) rfl rfl (any_of HT_.out (by kernel_rfl)) (fun _ _ _ h => h) (Or.inl ⟨by rfl, ?_⟩) ?_ ?_
    rotate_left; focus (intro w'; go_simp; with_reducible rfl)
    rotate_left; focus (simp only [Act.put, z1, z2, z3, i64_w, i32_w]; rfl)
    refine pure_ (i := 2) (N := some 26) (v := ?_) (a' := ?_) #[true,false,true,false,false,false,false,false,false,false,false] rfl rfl (any_of HT_.out (by kernel_rfl)) (fun _ _ _ h => h) (Or.inl ⟨by rfl, ?_⟩) ?_ ?_
    rotate_left; focus (intro w'; go_simp; with_reducible rfl)
    rotate_left; focus (simp only [Act.put, z1, z2, z3, i64_w, i32_w]; rfl)
    refine pure_ (i := 6) (N := some 30) (v := ?_) (a' := ?_) #[true,false,true,false,false,false,true,false,false,false,false] rfl rfl (any_of HT_.out (by kernel_rfl)) (fun _ _ _ h => h) (Or.inl ⟨by rfl, ?_⟩) ?_ ?_
    rotate_left; focus (intro w'; go_simp; with_reducible rfl)
    rotate_left; focus (simp only [Act.put, z1, z2, z3, i64_w, i32_w]; rfl)
    refine take_ (i := 1) (N := some 25) (v := ?_) (a' := ?_) #[true,true,true,false,false,false,true,false,false,false,false] rfl rfl (take_ofW HT_.out HW_.out (by kernel_rfl)) (fun _ _ _ h => h) (Or.inl ⟨by rfl, ?_⟩) hHeld ?_ ?_
    rotate_left
    · rintro w' ⟨s0, s1, s2, s3, s4⟩
      go_simp
      with_reducible rfl
    rotate_left; focus (simp only [Act.put, z1, z2, z3, i64_w, i32_w]; rfl)
    refine pure_ (i := 3) (N := some 27) (v := ?_) (a' := ?_) #[true,true,true,true,false,false,true,false,false,false,false] rfl rfl (any_of HT_.out (by kernel_rfl)) (fun _ _ _ h => h) (Or.inl ⟨by rfl, ?_⟩) ?_ ?_
    rotate_left; focus (intro w'; go_simp; with_reducible rfl)
    rotate_left; focus (simp only [Act.put, z1, z2, z3, i64_w, i32_w]; rfl)
    refine take_ (i := 4) (N := some 28) (v := ?_) (a' := ?_) #[true,true,true,true,true,false,true,false,false,false,false] rfl rfl (take_ofW HT_.out HW_.out (by kernel_rfl)) (fun _ _ _ h => h) (Or.inl ⟨by rfl, ?_⟩) hHeld ?_ ?_
    rotate_left
    · rintro w' ⟨s0, s1, s2, s3, s4⟩
      go_simp
      with_reducible rfl
    rotate_left; focus (simp only [Act.put, z1, z2, z3, i64_w, i32_w]; rfl)
    refine take_ (i := 7) (N := some 31) (v := ?_) (a' := ?_) #[true,true,true,true,true,false,true,true,false,false,false] rfl rfl (take_ofW HT_.out HW_.out (by kernel_rfl)) (fun _ _ _ h => h) (Or.inl ⟨by rfl, ?_⟩) hHeld ?_ ?_
    rotate_left
    · rintro w' ⟨s0, s1, s2, s3, s4⟩
      go_simp
      with_reducible rfl
    rotate_left; focus (simp only [Act.put, z1, z2, z3, i64_w, i32_w]; rfl)
    refine one_ (i := 5) (N := some 29) (zb 8 3) rfl rfl (one_of HT_.out (by kernel_rfl)) (by decide) (fun K hK => ?_)
    refine Kd.R_lit_step (Kd.int .i64) _ 3 ?hg (N := 29) ?hd (xs := ([rd l0_1 x9_1] : List Int)) (inner := [.int .i64 (rd l0_1 x9_1)]) (ok := fun _ => True) (okp := fun _ => True) ?hr ?hp (fun _ hk => hk) trivial (Below.refl _ _) (Nat.le_refl _) (by simp) ?_; (case hd => rfl); (case hg => rfl); (case hr => first | (go_simp; done) | (go_simp; rfl)); (case hp => exact (Reps.one (show Kd.M (Kd.int .i64) _ _ _ (rd l0_1 x9_1) [.int .i64 (rd l0_1 x9_1)] from rfl) (Reps.none _ _)))
    intro v318 w33 ho34 hb hg_ hnew_
    clear hg_ hnew_
    (first | rw [← Ny317.out] at ho34 | (simp only [Int.reduceToNat] at ho34; rw [← Ny317.out] at ho34))
    have n0_ := Aside0.mk (Kd.R_elder' (by (with_reducible repeat (first | apply Kd.R_alloc | apply Kd.R_drewN | apply Kd.R_drew)); exact HO_6.out) (Kd.R_base ho34) hb)
    have n1_ := Aside0.mk (Kd.V_elder' (by (with_reducible repeat (first | apply Kd.V_alloc | apply Kd.V_drewN | apply Kd.V_drew)); exact HO_315001.out) (Kd.R_base ho34) hb)
    have n2_ := Aside0.mk (Kd.R_lower (Kd.R_new' (Kd.R_newM (M := fun k_ => (w.heap.size ≤ k_)) ho34 (below_size bl) (fun k_ h_ => h_)) (Kd.R_lt (by (with_reducible repeat (first | apply Kd.R_alloc | apply Kd.R_drewN | apply Kd.R_drew)); exact HO_6.out))) (below_size bl))
    have n3_ := Aside0.mk (bb BK310.out hb)
    have n4_ := Aside0.mk (bb BK311.out hb)
    have n5_ := Aside0.mk (bb BK312.out hb)
    have n6_ := Aside0.mk (bb BK313.out hb)
    have n7_ := Aside0.mk (bb BK314.out hb)
    have n8_ := Aside0.mk (bb BK315.out hb)
    have n9_ := Aside0.mk (below_step bl hb)
    clear HO_6
    clear HO_315001
    clear BK310
    clear BK311
    clear BK312
    clear BK313
    clear BK314
    clear BK315
    clear HB
    have HO_6 := n0_
    have HO_315001 := n1_
    have HO319 := n2_
    have BK310 := n3_
    have BK311 := n4_
    have BK312 := n5_
    have BK313 := n6_
    have BK314 := n7_
    have BK315 := n8_
    have HB := n9_
    clear n0_ n1_ n2_ n3_ n4_ n5_ n6_ n7_ n8_ n9_
    clear hb ho34
    obtain ⟨Ao36, co36, eo36⟩ := Kd.V_slice HO_315001.out
    (first | subst eo36 | (injection eo36 with f1_ f2_ f3_; have f4_ := f1_.symm; have f5_ := f3_.symm; clear f1_ f2_ f3_; subst f4_; subst f5_))
    refine hK.out _ _ ⟨(blk_cell BK310.out 0).trans rfl, (blk_cell BK310.out 1).trans rfl, (blk_cell BK314.out 0).trans rfl, (blk_cell BK314.out 1).trans rfl, (hc HB.out hw316_0)⟩ (fun hHeld => ?_)
    clear hK K
    refine norm_ (a' := ?_) ?_ ?_
    rotate_left; focus (show Act.put _ (some 29) _ = _; simp only [Act.put, z1, z2, z3, i64_w, i32_w]; rfl)
    refine one_ (i := 8) (N := some 32) (zb 9 2) rfl rfl (one_of HT_.out (by kernel_rfl)) (by decide) (fun K hK => ?_)
    refine Kd.R_append_rows_step (Kd.int .i64) (w0 := w) w.heap.size (by rfl) (.tmp 29) (.tmp 31) 34 3 (.int .i64 0) 8 rfl Try.underlying34 info3 rfl (by decide) (by omega) v318 y317 x315001_1 _ _ _ (fun k_ => (w.heap.size ≤ k_) ∧ some k_ ≠ (u6 : Value).ownBlock) (fun _ => False) rfl rfl ?aO ?aR (fun _ _ h => h) (fun _ h => h.elim) ?aF ?aB ?aS ?aL ?_
    (case aR => exact kc ((Kd.V_reads' HO_315001.out).2.2))
    (case aB => exact bl)
    (case aF => exact (fun k_ hk => ⟨(Nat.le_trans (below_size bl) hk), Kd.fresh' (Kd.R_lt (by (with_reducible repeat (first | apply Kd.R_alloc | apply Kd.R_drewN | apply Kd.R_drew)); exact HO_6.out)) k_ hk⟩))
    (case aO => exact (by (with_reducible repeat (first | apply Kd.R_alloc | apply Kd.R_drewN | apply Kd.R_drew)); exact Kd.R_mono HO319.out (fun _ hk => ⟨hk.1.1, hk.2⟩)))
    (case aS => exact (below_size bl))
    (case aL => have := LMc30.out; omega)
    intro v321 w35 ho hb hg hat
    rw [← Ny320.out] at ho
    have n0_ := Aside0.mk (Kd.R_after (ok := (fun k_ => (w.heap.size ≤ k_))) (by (with_reducible repeat (first | apply Kd.R_alloc | apply Kd.R_drewN | apply Kd.R_drew)); exact HO_6.out) hg hat)
    have n1_ := Aside0.mk (Kd.V_afterv (ok := (fun k_ => (w.heap.size ≤ k_) ∧ some k_ ≠ (u6 : Value).ownBlock ∧ k_ ≠ gb310 ∧ k_ ≠ gb311 ∧ k_ ≠ gb312 ∧ k_ ≠ gb313 ∧ k_ ≠ gb314 ∧ k_ ≠ gb315)) (by (with_reducible repeat (first | apply Kd.V_alloc | apply Kd.V_drewN | apply Kd.V_drew)); exact HO_315001.out) hg hat)
    have n2_ := Aside0.mk (blk_grown (bk BK310.out) hg (Kd.R_ne HO319.out BK310.out (by decide)))
    have n3_ := Aside0.mk (blk_grown (bk BK311.out) hg (Kd.R_ne HO319.out BK311.out (by decide)))
    have n4_ := Aside0.mk (blk_grown (bk BK312.out) hg (Kd.R_ne HO319.out BK312.out (by decide)))
    have n5_ := Aside0.mk (blk_grown (bk BK313.out) hg (Kd.R_ne HO319.out BK313.out (by decide)))
    have n6_ := Aside0.mk (blk_grown (bk BK314.out) hg (Kd.R_ne HO319.out BK314.out (by decide)))
    have n7_ := Aside0.mk (blk_grown (bk BK315.out) hg (Kd.R_ne HO319.out BK315.out (by decide)))
    have n8_ := Aside0.mk (hb)
    have n9_ := Aside0.mk (ho)
    clear HO_6
    clear HO_315001
    clear BK310
    clear BK311
    clear BK312
    clear BK313
    clear BK314
    clear BK315
    clear HB
    clear HO319
    have HO_6 := n0_
    have HO_315001 := n1_
    have BK310 := n2_
    have BK311 := n3_
    have BK312 := n4_
    have BK313 := n5_
    have BK314 := n6_
    have BK315 := n7_
    have HB := n8_
    have HO322 := n9_
    clear n0_ n1_ n2_ n3_ n4_ n5_ n6_ n7_ n8_ n9_
    clear ho hb hg hat
    obtain ⟨Ao37, co37, eo37⟩ := Kd.R_slice HO322.out
    (first | subst eo37 | (injection eo37 with f1_ f2_ f3_; have f4_ := f1_.symm; have f5_ := f3_.symm; clear f1_ f2_ f3_; subst f4_; subst f5_))
    refine hK.out _ _ ⟨(blk_cell BK310.out 0).trans rfl, (blk_cell BK310.out 1).trans rfl, (blk_cell BK314.out 0).trans rfl, (blk_cell BK314.out 1).trans rfl, (hc HB.out hw316_0)⟩ (fun hHeld => ?_)
    clear hK K
    refine norm_ (a' := ?_) ?_ ?_
    rotate_left; focus (show Act.put _ (some 32) _ = _; simp only [Act.put, z1, z2, z3, i64_w, i32_w]; rfl)
    refine one_ (i := 9) (N := some 33) (zb 10 1) rfl rfl (one_of HT_.out (by kernel_rfl)) (by decide) (fun K hK => ?_)
    refine goes_ Try.func66 (by kernel_rfl) rfl #[.bool false, .slice Ao37 y320.length co37] (by rfl) rfl rfl (by (try simp only [List.map_toArray, List.map_cons, List.map_nil]); first | done | rfl | (simp only [List.length_drop, List.length_take]; rfl)) ?_
    with_reducible refine (maskref4_trim.calls false (fun k_ => some k_ = (.slice Ao37 y320.length co37 : Value).ownBlock) _ _ y320 t323 t324 _ ?side1 A31.out).mono ?_
    (case side1 => exact Kd.R_V (Kd.R_tight rfl (Kd.R_types (Kd.R_types (Kd.R_types (Kd.R_types (Kd.R_types (Kd.R_types (HO322.out) BK310.out (by decide)) BK311.out (by decide)) BK312.out (by decide)) BK313.out (by decide)) BK314.out (by decide)) BK315.out (by decide))))
    rintro e w38 ⟨v325, rfl, ho0, hb⟩
    refine ⟨_, rfl, ?_⟩
    have n0_ := Aside0.mk (rb HO_6.out hb)
    have n1_ := Aside0.mk (vb HO_315001.out hb)
    have n2_ := Aside0.mk (rb HO322.out hb)
    have n3_ := Aside0.mk (Kd.V_lower (Kd.V_mono (ok' := fun k_ => (w.heap.size ≤ k_) ∧ some k_ ≠ (u6 : Value).ownBlock ∧ k_ ≠ gb310 ∧ k_ ≠ gb311 ∧ k_ ≠ gb312 ∧ k_ ≠ gb313 ∧ k_ ≠ gb314 ∧ k_ ≠ gb315) ho0 (fun k_ hk_ => ⟨Or.elim hk_ (fun hs_ => ((Kd.R_types (Kd.R_types (Kd.R_types (Kd.R_types (Kd.R_types (Kd.R_types (HO322.out) BK310.out (by decide)) BK311.out (by decide)) BK312.out (by decide)) BK313.out (by decide)) BK314.out (by decide)) BK315.out (by decide)).1 k_ hs_.symm).1.1.1.1.1.1.1) (fun hn_ => (Nat.le_trans (below_size bl) hn_)), Or.elim hk_ (fun hs_ => ((Kd.R_types (Kd.R_types (Kd.R_types (Kd.R_types (Kd.R_types (Kd.R_types (HO322.out) BK310.out (by decide)) BK311.out (by decide)) BK312.out (by decide)) BK313.out (by decide)) BK314.out (by decide)) BK315.out (by decide)).1 k_ hs_.symm).1.1.1.1.1.1.2) (fun hn_ => (Kd.fresh' (Kd.R_lt (by (with_reducible repeat (first | apply Kd.R_alloc | apply Kd.R_drewN | apply Kd.R_drew)); exact HO_6.out)) k_ hn_)), Or.elim hk_ (fun hs_ => ((Kd.R_types (Kd.R_types (Kd.R_types (Kd.R_types (Kd.R_types (Kd.R_types (HO322.out) BK310.out (by decide)) BK311.out (by decide)) BK312.out (by decide)) BK313.out (by decide)) BK314.out (by decide)) BK315.out (by decide)).1 k_ hs_.symm).1.1.1.1.1.2) (fun hn_ => (Kd.freshB (g := gb310) (o := .cells #[.bool a0_0, .slice (some ad316) l0_1.length c0_1] 36 (0, 0)) (bk BK310.out) k_ hn_)), Or.elim hk_ (fun hs_ => ((Kd.R_types (Kd.R_types (Kd.R_types (Kd.R_types (Kd.R_types (Kd.R_types (HO322.out) BK310.out (by decide)) BK311.out (by decide)) BK312.out (by decide)) BK313.out (by decide)) BK314.out (by decide)) BK315.out (by decide)).1 k_ hs_.symm).1.1.1.1.2) (fun hn_ => (Kd.freshB (g := gb311) (o := .cells #[.bool a1_0, .slice A1_1 l1_1.length c1_1] 36 (0, 0)) (bk BK311.out) k_ hn_)), Or.elim hk_ (fun hs_ => ((Kd.R_types (Kd.R_types (Kd.R_types (Kd.R_types (Kd.R_types (Kd.R_types (HO322.out) BK310.out (by decide)) BK311.out (by decide)) BK312.out (by decide)) BK313.out (by decide)) BK314.out (by decide)) BK315.out (by decide)).1 k_ hs_.symm).1.1.1.2) (fun hn_ => (Kd.freshB (g := gb312) (o := .cells #[.bool false, .slice none 0 0] 36 (0, 0)) (bk BK312.out) k_ hn_)), Or.elim hk_ (fun hs_ => ((Kd.R_types (Kd.R_types (Kd.R_types (Kd.R_types (Kd.R_types (Kd.R_types (HO322.out) BK310.out (by decide)) BK311.out (by decide)) BK312.out (by decide)) BK313.out (by decide)) BK314.out (by decide)) BK315.out (by decide)).1 k_ hs_.symm).1.1.2) (fun hn_ => (Kd.freshB (g := gb313) (o := .cells #[.bool false, .slice none 0 0] 36 (0, 0)) (bk BK313.out) k_ hn_)), Or.elim hk_ (fun hs_ => ((Kd.R_types (Kd.R_types (Kd.R_types (Kd.R_types (Kd.R_types (Kd.R_types (HO322.out) BK310.out (by decide)) BK311.out (by decide)) BK312.out (by decide)) BK313.out (by decide)) BK314.out (by decide)) BK315.out (by decide)).1 k_ hs_.symm).1.2) (fun hn_ => (Kd.freshB (g := gb314) (o := .cells #[.bool x315000_1, .slice Ao36 x315001_1.length co36] 36 (0, 0)) (bk BK314.out) k_ hn_)), Or.elim hk_ (fun hs_ => ((Kd.R_types (Kd.R_types (Kd.R_types (Kd.R_types (Kd.R_types (Kd.R_types (HO322.out) BK310.out (by decide)) BK311.out (by decide)) BK312.out (by decide)) BK313.out (by decide)) BK314.out (by decide)) BK315.out (by decide)).1 k_ hs_.symm).2) (fun hn_ => (Kd.freshB (g := gb315) (o := .cells #[.bool false, .slice A1_1 l1_1.length c1_1] 36 (0, 0)) (bk BK315.out) k_ hn_))⟩)) (below_size bl))
    have n4_ := Aside0.mk (bb BK310.out hb)
    have n5_ := Aside0.mk (bb BK311.out hb)
    have n6_ := Aside0.mk (bb BK312.out hb)
    have n7_ := Aside0.mk (bb BK313.out hb)
    have n8_ := Aside0.mk (bb BK314.out hb)
    have n9_ := Aside0.mk (bb BK315.out hb)
    have n10_ := Aside0.mk (below_step bl hb)
    clear HO_6
    clear HO_315001
    clear HO322
    clear BK310
    clear BK311
    clear BK312
    clear BK313
    clear BK314
    clear BK315
    clear HB
    have HO_6 := n0_
    have HO_315001 := n1_
    have HO322 := n2_
    have HO326 := n3_
    have BK310 := n4_
    have BK311 := n5_
    have BK312 := n6_
    have BK313 := n7_
    have BK314 := n8_
    have BK315 := n9_
    have HB := n10_
    clear n0_ n1_ n2_ n3_ n4_ n5_ n6_ n7_ n8_ n9_ n10_
    (try clear hb)
    (try clear hb2)
    (try clear hk)
    (try clear hi)
    (try clear ho0)
    obtain ⟨Ao40, co40, eo40⟩ := Kd.V_slice HO326.out
    (first | subst eo40 | (injection eo40 with f1_ f2_ f3_; have f4_ := f1_.symm; have f5_ := f3_.symm; clear f1_ f2_ f3_; subst f4_; subst f5_))
    refine hK.out _ _ ⟨(blk_cell BK310.out 0).trans rfl, (blk_cell BK310.out 1).trans rfl, (blk_cell BK314.out 0).trans rfl, (blk_cell BK314.out 1).trans rfl, (hc HB.out hw316_0)⟩ (fun hHeld => ?_)
    clear hK K
    refine norm_ (a' := ?_) ?_ ?_
    rotate_left; focus (show Act.put _ (some 33) _ = _; simp only [Act.put, z1, z2, z3, i64_w, i32_w]; rfl)
    refine last_ (i := 10) (N := none) (zb 11 0) rfl rfl (one_of HT_.out (by kernel_rfl)) (by decide) (fun K hK => ?_)
    have hfs39 := blk_frozen BK314.out 0
    have hfs41 := blk_frozen BK314.out 1
    refine skip_ (w1 := ?_) (by rfl) rfl ?_ ?_
    rotate_left; focus (go_simp; rfl)
    refine hK.out _ _ ?_
    clear hK K
    refine done_ (done_of HT_.out (by kernel_rfl)) ?_
    try go_wp2
    go_loopg [10] k1 (fun kq v10 w' => ∃ (x10_2 : Int) (x315000_2 : Bool) (x315001_2 : List Int) (u315001 : Value), v10 = .int .i64 x10_2 ∧ Aside0 (maskref4_Dec_Split.l1 kq x6_1 x9_1 x10_2 a0_0 l0_1 a1_0 l1_1 x315000_2 x315001_2 false l1_1 = some (r1, r2, r3, r4)) ∧ Aside0 (kq ≤ k1) ∧ Aside0 (Kd.R (Kd.int .i64) 3 w' w.heap.size (fun k_ => (w.heap.size ≤ k_)) u6 x6_1) ∧ Aside0 (Kd.V (Kd.int .i64) 3 w' w.heap.size (fun k_ => (w.heap.size ≤ k_) ∧ some k_ ≠ (u6 : Value).ownBlock ∧ k_ ≠ gb310 ∧ k_ ≠ gb311 ∧ k_ ≠ gb312 ∧ k_ ≠ gb313 ∧ k_ ≠ gb314 ∧ k_ ≠ gb315) u315001 x315001_2) ∧ Aside0 (w'.heap[gb310]? = some (.cells #[.bool a0_0, (.slice (some ad316) l0_1.length c0_1)] 36 (0, 0))) ∧ Aside0 (w'.heap[gb311]? = some (.cells #[.bool a1_0, (.slice A1_1 l1_1.length c1_1)] 36 (0, 0))) ∧ Aside0 (w'.heap[gb312]? = some (.cells #[.bool false, (.slice none 0 0)] 36 (0, 0))) ∧ Aside0 (w'.heap[gb313]? = some (.cells #[.bool false, (.slice none 0 0)] 36 (0, 0))) ∧ Aside0 (w'.heap[gb314]? = some (.cells #[.bool x315000_2, u315001] 36 (0, 0))) ∧ Aside0 (w'.heap[gb315]? = some (.cells #[.bool false, (.slice A1_1 l1_1.length c1_1)] 36 (0, 0))) ∧ Aside0 (Below w.heap.size w w'))
    case atStart => exact ⟨(0), (t323), (t324), (.slice Ao40 t324.length co40), (by first | rfl | (simp; done) | (simp [*]; done)), H', ⟨Nat.le_refl _⟩, ⟨by (with_reducible repeat (first | apply Kd.R_alloc | apply Kd.R_drewN | apply Kd.R_drew)); exact Kd.R_mono (Kd.R_far (p := ⟨gb314, 1, none⟩) (Kd.R_far (p := ⟨gb314, 0, none⟩) (Kd.R_types HO_6.out BK314.out (by decide)) (fun _ hk => hk.2) (.bool t323)) (fun _ hk => hk.2) (.slice Ao40 t324.length co40)) (fun _ hk => hk.1.1)⟩, ⟨by (with_reducible repeat (first | apply Kd.V_alloc | apply Kd.V_drewN | apply Kd.V_drew)); exact Kd.V_mono (Kd.V_far (p := ⟨gb314, 1, none⟩) (Kd.V_far (p := ⟨gb314, 0, none⟩) (Kd.V_mono HO326.out (fun k_ hk => (⟨hk, hk.2.2.2.2.2.2.1⟩ : _ ∧ k_ ≠ gb314))) (fun _ hk => hk.2) (.bool t323)) (fun _ hk => hk.2) (.slice Ao40 t324.length co40)) (fun _ hk => ⟨hk.1.1, ⟨hk.1.2.1, ⟨hk.1.2.2.1, ⟨hk.1.2.2.2.1, ⟨hk.1.2.2.2.2.1, ⟨hk.1.2.2.2.2.2.1, ⟨hk.1.2.2.2.2.2.2.1, hk.1.2.2.2.2.2.2.2⟩⟩⟩⟩⟩⟩⟩)⟩, ⟨bf BK310.out⟩, ⟨bf BK311.out⟩, ⟨bf BK312.out⟩, ⟨bf BK313.out⟩, ⟨by (with_reducible repeat (first | refine blk_drewN ?_ _ | refine blk_drew ?_ | refine blk_alloc ?_ _)); refine blk_put (cs := #[.bool t323, .slice Ao36 x315001_1.length co36]) ?_ 1 _ rfl; (with_reducible repeat (first | refine blk_drewN ?_ _ | refine blk_drew ?_ | refine blk_alloc ?_ _)); refine blk_put (cs := #[.bool x315000_1, .slice Ao36 x315001_1.length co36]) ?_ 0 _ rfl; (with_reducible repeat (first | refine blk_drewN ?_ _ | refine blk_drew ?_ | refine blk_alloc ?_ _)); exact BK314.out⟩, ⟨bf BK315.out⟩, ⟨bl⟩⟩
    clear H'
    clear c27b0 c28b0 c29b0 hx316_0 p316 q316
    obtain ⟨x10_2, x315000_2, x315001_2, u315001, rfl, HA, HK2, HO_6, HO_315001, BK310, BK311, BK312, BK313, BK314, BK315, HB⟩ := hrel
    cases gk with
    | zero => exact absurd HA.out (by simp [maskref4_Dec_Split.l1])
    | succ k2 =>
     have H := HA.out
     clear HA
     simp only [maskref4_Dec_Split.l1] at H
     replace H := Option.bind_eq_some_iff.mp H
     obtain ⟨t327, A420, H⟩ := H
     replace H : (if t327 = true then ((some (([x10_2] : List Int) : List Int)).bind fun y328 => (if y328.length + x6_1.length < 17592186044416 then (maskref4_Dec_Split.l0 k2 (y328 ++ x6_1) (wrap64 (x9_1 - 1)) a0_0 l0_1 a1_0 l1_1 x315000_2 x315001_2 false l1_1) else (none))) else ((maskref4_Dec_Minus.f k2 x315000_2 x315001_2 false l1_1).bind fun bt334 => (maskref4_Dec_Split.l1 k2 x6_1 x9_1 (wrap64 (x10_2 + 1)) a0_0 l0_1 a1_0 l1_1 bt334.1 bt334.2 false l1_1))) = some (r1, r2, r3, r4) := H
     have A42 := Aside0.mk A420
     clear A420
     by_cases c43 : t327 = true
     rotate_left
     · replace c43 := Bool.eq_false_iff.mpr c43
       subst c43
       have H1 : ((maskref4_Dec_Minus.f k2 x315000_2 x315001_2 false l1_1).bind fun bt334 => (maskref4_Dec_Split.l1 k2 x6_1 x9_1 (wrap64 (x10_2 + 1)) a0_0 l0_1 a1_0 l1_1 bt334.1 bt334.2 false l1_1)) = some (r1, r2, r3, r4) := by rw [if_neg (show ¬ (false = true) by decide)] at H; exact H
       clear H
       have H := H1
       clear H1
       replace H := Option.bind_eq_some_iff.mp H
       obtain ⟨⟨t334, t335⟩, A610, H⟩ := H
       replace H : (maskref4_Dec_Split.l1 k2 x6_1 x9_1 (wrap64 (x10_2 + 1)) a0_0 l0_1 a1_0 l1_1 t334 t335 false l1_1) = some (r1, r2, r3, r4) := H
       have A61 := Aside0.mk A610
       clear A610
       have H' := Aside0.mk H
       clear H
       obtain ⟨hcz67_0, hcz67_1, hfz67_0, hfz67_1⟩ := bz2 BK314.out
       obtain ⟨hcz72_0, hcz72_1, hfz72_0, hfz72_1⟩ := bz2 BK315.out
       obtain ⟨Ao73, co73, eo73⟩ := Kd.V_slice HO_315001.out
       subst eo73
       go_wp2_with (first | ((with_reducible refine gate_callee (f := 81) rfl ?_); refine goesL_ (some 38) rfl rfl Try.func81 (by kernel_rfl) rfl #[.slice Ao73 x315001_2.length co73, .slice A1_1 l1_1.length c1_1] rfl (by (try simp only [List.map_toArray, List.map_cons, List.map_nil]); first | done | rfl | (simp only [List.length_drop, List.length_take]; rfl)) ?_; (with_reducible refine (maskref4_less.calls k2 _ _ x315001_2 _ _ l1_1 false _ ?side1 ?side2 ?side3 ?side4 A42.out).mono ?_); (case side1 => exact kc ((Kd.V_reads' HO_315001.out).2.2)); (case side2 => exact (Kd.V_reads' HO_315001.out).2.1); (case side3 => exact kc (Kd.C_below HR1_1.out HB.out)); (case side4 => exact HC1_1.out); rintro e w' ⟨rfl, ⟨nd, rfl⟩⟩; refine ⟨_, rfl, ?_⟩; (try (rw [drewN_self wr]; generalize hq_ : World.drewN wr _ = wr; have n0_ : Aside0 (Kd.V (Kd.int .i64) 3 wr w.heap.size (fun k_ => (w.heap.size ≤ k_) ∧ some k_ ≠ (u6 : Value).ownBlock ∧ k_ ≠ gb310 ∧ k_ ≠ gb311 ∧ k_ ≠ gb312 ∧ k_ ≠ gb313 ∧ k_ ≠ gb314 ∧ k_ ≠ gb315) (.slice Ao73 x315001_2.length co73) x315001_2) := ⟨by rw [← hq_]; exact (by (with_reducible repeat (first | apply Kd.V_alloc | apply Kd.V_drewN | apply Kd.V_drew)); exact HO_315001.out)⟩; have n1_ : Aside0 (Kd.R (Kd.int .i64) 3 wr w.heap.size (fun k_ => (w.heap.size ≤ k_)) u6 x6_1) := ⟨by rw [← hq_]; exact (by (with_reducible repeat (first | apply Kd.R_alloc | apply Kd.R_drewN | apply Kd.R_drew)); exact HO_6.out)⟩; have n2_ : Aside0 (wr.heap[gb310]? = some (.cells #[.bool a0_0, .slice (some ad316) l0_1.length c0_1] 36 (0, 0))) := ⟨by rw [← hq_]; exact (bk BK310.out)⟩; have n3_ : Aside0 (wr.heap[gb311]? = some (.cells #[.bool a1_0, .slice A1_1 l1_1.length c1_1] 36 (0, 0))) := ⟨by rw [← hq_]; exact (bk BK311.out)⟩; have n4_ : Aside0 (wr.heap[gb312]? = some (.cells #[.bool false, .slice none 0 0] 36 (0, 0))) := ⟨by rw [← hq_]; exact (bk BK312.out)⟩; have n5_ : Aside0 (wr.heap[gb313]? = some (.cells #[.bool false, .slice none 0 0] 36 (0, 0))) := ⟨by rw [← hq_]; exact (bk BK313.out)⟩; have n6_ : Aside0 (wr.heap[gb314]? = some (.cells #[.bool x315000_2, .slice Ao73 x315001_2.length co73] 36 (0, 0))) := ⟨by rw [← hq_]; exact (bk BK314.out)⟩; have n7_ : Aside0 (wr.heap[gb315]? = some (.cells #[.bool false, .slice A1_1 l1_1.length c1_1] 36 (0, 0))) := ⟨by rw [← hq_]; exact (bk BK315.out)⟩; have n8_ : Aside0 (Below w.heap.size w wr) := ⟨by rw [← hq_]; exact bl⟩; clear HO_315001 HO_6 BK310 BK311 BK312 BK313 BK314 BK315 HB hq_; have HO_315001 := n0_; have HO_6 := n1_; have BK310 := n2_; have BK311 := n3_; have BK312 := n4_; have BK313 := n5_; have BK314 := n6_; have BK315 := n7_; have HB := n8_; clear n0_ n1_ n2_ n3_ n4_ n5_ n6_ n7_ n8_; have hczR_0 := (blk_cell BK314.out 0).trans (rfl : _ = some (Value.bool x315000_2)); have hczR_1 := (blk_cell BK314.out 1).trans (rfl : _ = some (Value.slice Ao73 x315001_2.length co73)); have hczS_0 := (blk_cell BK315.out 0).trans (rfl : _ = some (Value.bool false)); have hczS_1 := (blk_cell BK315.out 1).trans (rfl : _ = some (Value.slice A1_1 l1_1.length c1_1)); obtain ⟨-, -, hfzR_0, hfzR_1⟩ := bz2 BK314.out))) | ((with_reducible refine gate_callee (f := 47) rfl ?_); refine goesL_ (some 42) rfl rfl Try.func47 (by kernel_rfl) rfl #[.agg #[.bool x315000_2, .slice Ao73 x315001_2.length co73], .agg #[.bool false, .slice A1_1 l1_1.length c1_1]] rfl (by (try simp only [List.map_toArray, List.map_cons, List.map_nil]); first | done | rfl | (simp only [List.length_drop, List.length_take]; rfl)) ?_; (with_reducible refine (maskref4_Dec_Minus.calls k2 x315000_2 _ _ x315001_2 false _ _ l1_1 t334 t335 _ ?side1 ?side2 ?side3 ?side4 A61.out).mono ?_); (case side1 => exact kc ((Kd.V_reads' HO_315001.out).2.2)); (case side2 => exact (Kd.V_reads' HO_315001.out).2.1); (case side3 => exact kc (Kd.C_below HR1_1.out HB.out)); (case side4 => exact HC1_1.out); rintro e w74 ⟨v336, rfl, ho0, hb⟩; refine ⟨_, rfl, ?_⟩; replace HO_315001 := Aside0.mk (vb HO_315001.out hb); have HO337 := Aside0.mk (Kd.V_lower (Kd.V_mono (ok' := fun k_ => (w.heap.size ≤ k_) ∧ some k_ ≠ (u6 : Value).ownBlock ∧ k_ ≠ gb310 ∧ k_ ≠ gb311 ∧ k_ ≠ gb312 ∧ k_ ≠ gb313 ∧ k_ ≠ gb314 ∧ k_ ≠ gb315) ho0 (fun k_ hk_ => ⟨(Nat.le_trans (below_size bl) hk_), (Kd.fresh' (Kd.R_lt (by (with_reducible repeat (first | apply Kd.R_alloc | apply Kd.R_drewN | apply Kd.R_drew)); exact HO_6.out)) k_ hk_), (Kd.freshB (g := gb310) (o := .cells #[.bool a0_0, .slice (some ad316) l0_1.length c0_1] 36 (0, 0)) (bk BK310.out) k_ hk_), (Kd.freshB (g := gb311) (o := .cells #[.bool a1_0, .slice A1_1 l1_1.length c1_1] 36 (0, 0)) (bk BK311.out) k_ hk_), (Kd.freshB (g := gb312) (o := .cells #[.bool false, .slice none 0 0] 36 (0, 0)) (bk BK312.out) k_ hk_), (Kd.freshB (g := gb313) (o := .cells #[.bool false, .slice none 0 0] 36 (0, 0)) (bk BK313.out) k_ hk_), (Kd.freshB (g := gb314) (o := .cells #[.bool x315000_2, .slice Ao73 x315001_2.length co73] 36 (0, 0)) (bk BK314.out) k_ hk_), (Kd.freshB (g := gb315) (o := .cells #[.bool false, .slice A1_1 l1_1.length c1_1] 36 (0, 0)) (bk BK315.out) k_ hk_)⟩)) (below_size bl)); replace HO_6 := Aside0.mk (rb HO_6.out hb); replace BK310 := Aside0.mk (bb BK310.out hb); replace BK311 := Aside0.mk (bb BK311.out hb); replace BK312 := Aside0.mk (bb BK312.out hb); replace BK313 := Aside0.mk (bb BK313.out hb); replace BK314 := Aside0.mk (bb BK314.out hb); replace BK315 := Aside0.mk (bb BK315.out hb); replace HB := Aside0.mk (below_step bl hb); (try clear hb); (try clear ho0); obtain ⟨hcz75_0, hcz75_1, hfz75_0, hfz75_1⟩ := bz2 BK314.out; obtain ⟨Ao76, co76, eo76⟩ := Kd.V_slice HO337.out; subst eo76))
       go_roundg k2
       case measure => have := HK1.out; have := HK2.out; omega
       case rel => exact ⟨(wrap64 (x10_2 + 1)), (t334), (t335), (.slice Ao76 t335.length co76), (by first | rfl | (simp; done) | (simp [*]; done)), H', ⟨by have := HK1.out; have := HK2.out; omega⟩, ⟨by (with_reducible repeat (first | apply Kd.R_alloc | apply Kd.R_drewN | apply Kd.R_drew)); exact Kd.R_mono (Kd.R_far (p := ⟨gb314, 1, none⟩) (Kd.R_far (p := ⟨gb314, 0, none⟩) (Kd.R_types HO_6.out BK314.out (by decide)) (fun _ hk => hk.2) (.bool t334)) (fun _ hk => hk.2) (.slice Ao76 t335.length co76)) (fun _ hk => hk.1)⟩, ⟨by (with_reducible repeat (first | apply Kd.V_alloc | apply Kd.V_drewN | apply Kd.V_drew)); exact Kd.V_mono (Kd.V_far (p := ⟨gb314, 1, none⟩) (Kd.V_far (p := ⟨gb314, 0, none⟩) (Kd.V_mono HO337.out (fun k_ hk => (⟨hk, hk.2.2.2.2.2.2.1⟩ : _ ∧ k_ ≠ gb314))) (fun _ hk => hk.2) (.bool t334)) (fun _ hk => hk.2) (.slice Ao76 t335.length co76)) (fun _ hk => ⟨hk.1.1, ⟨hk.1.2.1, ⟨hk.1.2.2.1, ⟨hk.1.2.2.2.1, ⟨hk.1.2.2.2.2.1, ⟨hk.1.2.2.2.2.2.1, ⟨hk.1.2.2.2.2.2.2.1, hk.1.2.2.2.2.2.2.2⟩⟩⟩⟩⟩⟩⟩)⟩, ⟨bf BK310.out⟩, ⟨bf BK311.out⟩, ⟨bf BK312.out⟩, ⟨bf BK313.out⟩, ⟨by (with_reducible repeat (first | refine blk_drewN ?_ _ | refine blk_drew ?_ | refine blk_alloc ?_ _)); refine blk_put (cs := #[.bool t334, .slice Ao73 x315001_2.length co73]) ?_ 1 _ rfl; (with_reducible repeat (first | refine blk_drewN ?_ _ | refine blk_drew ?_ | refine blk_alloc ?_ _)); refine blk_put (cs := #[.bool x315000_2, .slice Ao73 x315001_2.length co73]) ?_ 0 _ rfl; (with_reducible repeat (first | refine blk_drewN ?_ _ | refine blk_drew ?_ | refine blk_alloc ?_ _)); exact BK314.out⟩, ⟨bf BK315.out⟩, ⟨bl⟩⟩
     subst c43
     have H1 : ((some (([x10_2] : List Int) : List Int)).bind fun y328 => (if y328.length + x6_1.length < 17592186044416 then (maskref4_Dec_Split.l0 k2 (y328 ++ x6_1) (wrap64 (x9_1 - 1)) a0_0 l0_1 a1_0 l1_1 x315000_2 x315001_2 false l1_1) else (none))) = some (r1, r2, r3, r4) := by rw [if_pos rfl] at H; exact H
     clear H
     have H := H1
     clear H1
     obtain ⟨y328, hy328⟩ : ∃ y_ : List Int, y_ = (([x10_2] : List Int)) := ⟨_, rfl⟩
     replace H : (if y328.length + x6_1.length < 17592186044416 then (maskref4_Dec_Split.l0 k2 (y328 ++ x6_1) (wrap64 (x9_1 - 1)) a0_0 l0_1 a1_0 l1_1 x315000_2 x315001_2 false l1_1) else (none)) = some (r1, r2, r3, r4) := by first | (rw [hy328]; with_reducible exact H) | (have H2_ := (Option.bind_some _ _).symm.trans H; rw [hy328]; with_reducible exact H2_) | (have H2_ := (Option.bind_some _ _).symm.trans H; with_reducible exact H2_) | with_reducible exact H | (rw [hy328]; exact H) | exact H
     have Ny328 := Aside0.mk hy328
     clear hy328
     by_cases c44 : y328.length + x6_1.length < 17592186044416
     rotate_left
     · rw [if_neg c44] at H
       exact absurd H (by simp)
     rw [if_pos c44] at H
     have LMc44 := Aside0.mk c44
     clear c44
     obtain ⟨y331, hy331⟩ : ∃ y_ : List Int, y_ = (y328 ++ x6_1) := ⟨_, rfl⟩
     replace H : (maskref4_Dec_Split.l0 k2 y331 (wrap64 (x9_1 - 1)) a0_0 l0_1 a1_0 l1_1 x315000_2 x315001_2 false l1_1) = some (r1, r2, r3, r4) := by first | (rw [hy331]; with_reducible exact H) | (have H2_ := (Option.bind_some _ _).symm.trans H; rw [hy331]; with_reducible exact H2_) | (have H2_ := (Option.bind_some _ _).symm.trans H; with_reducible exact H2_) | with_reducible exact H | (rw [hy331]; exact H) | exact H
     have Ny331 := Aside0.mk hy331
     clear hy331
     have H' := Aside0.mk H
     clear H
     obtain ⟨hcz50_0, hcz50_1, hfz50_0, hfz50_1⟩ := bz2 BK314.out
     obtain ⟨hcz55_0, hcz55_1, hfz55_0, hfz55_1⟩ := bz2 BK315.out
     obtain ⟨Ao56, co56, eo56⟩ := Kd.V_slice HO_315001.out
     subst eo56
     go_wp2_with (first | ((with_reducible refine gate_callee (f := 81) rfl ?_); refine goesL_ (some 38) rfl rfl Try.func81 (by kernel_rfl) rfl #[.slice Ao56 x315001_2.length co56, .slice A1_1 l1_1.length c1_1] rfl (by (try simp only [List.map_toArray, List.map_cons, List.map_nil]); first | done | rfl | (simp only [List.length_drop, List.length_take]; rfl)) ?_; (with_reducible refine (maskref4_less.calls k2 _ _ x315001_2 _ _ l1_1 true _ ?side1 ?side2 ?side3 ?side4 A42.out).mono ?_); (case side1 => exact kc ((Kd.V_reads' HO_315001.out).2.2)); (case side2 => exact (Kd.V_reads' HO_315001.out).2.1); (case side3 => exact kc (Kd.C_below HR1_1.out HB.out)); (case side4 => exact HC1_1.out); rintro e w' ⟨rfl, ⟨nd, rfl⟩⟩; refine ⟨_, rfl, ?_⟩) | ((with_reducible refine gate_dst (N := 46) rfl ?_); (try (refine gate_guard (by rfl) ?_; dsimp only)); refine Kd.R_lit (Kd.int .i64) _ 3 ?hg (N := 46) ?hd (xs := ([x10_2] : List Int)) (inner := [.int .i64 x10_2]) (ok := fun _ => True) (okp := fun _ => True) ?hr ?hp (fun _ hk => hk) trivial (Below.refl _ _) (Nat.le_refl _) (by simp) ?_; (case hd => rfl); (case hg => rfl); (case hr => first | (go_simp; done) | (go_simp; rfl)); (case hp => exact (Reps.one (show Kd.M (Kd.int .i64) _ _ _ x10_2 [.int .i64 x10_2] from rfl) (Reps.none _ _))); intro v329 w57 ho58 hb hg_ hnew_; clear hg_ hnew_; (first | rw [← Ny328.out] at ho58 | (simp only [Int.reduceToNat] at ho58; rw [← Ny328.out] at ho58)); replace HO_315001 := Aside0.mk (Kd.V_elder' (by (with_reducible repeat (first | apply Kd.V_alloc | apply Kd.V_drewN | apply Kd.V_drew)); exact HO_315001.out) (Kd.R_base ho58) hb); have HO330 := Aside0.mk (Kd.R_lower (Kd.R_new' (Kd.R_newM (M := fun k_ => (w.heap.size ≤ k_)) ho58 (below_size bl) (fun k_ h_ => h_)) (Kd.R_lt (by (with_reducible repeat (first | apply Kd.R_alloc | apply Kd.R_drewN | apply Kd.R_drew)); exact HO_6.out))) (below_size bl)); replace HO_6 := Aside0.mk (Kd.R_elder' (by (with_reducible repeat (first | apply Kd.R_alloc | apply Kd.R_drewN | apply Kd.R_drew)); exact HO_6.out) (Kd.R_base ho58) hb); replace BK310 := Aside0.mk (bb BK310.out hb); replace BK311 := Aside0.mk (bb BK311.out hb); replace BK312 := Aside0.mk (bb BK312.out hb); replace BK313 := Aside0.mk (bb BK313.out hb); replace BK314 := Aside0.mk (bb BK314.out hb); replace BK315 := Aside0.mk (bb BK315.out hb); replace HB := Aside0.mk (below_step bl hb); clear hb ho58; obtain ⟨Ao60, co60, eo60⟩ := Kd.R_slice HO_6.out; subst eo60) | ((with_reducible refine gate_builtin (b := .append) (xs := #[.tmp 46, .tmp 47]) rfl ?_); (try (refine gate_guard (by rfl) ?_; dsimp only)); at_builtin; refine Kd.R_append_rows (Kd.int .i64) (w0 := w) w.heap.size rfl (.tmp 46) (.tmp 47) 34 3 (.int .i64 0) 8 rfl Try.underlying34 info3 rfl (by decide) (by omega) v329 y328 x6_1 _ _ _ (fun k_ => (w.heap.size ≤ k_) ∧ some k_ ≠ (.slice Ao60 x6_1.length co60 : Value).ownBlock) (fun _ => False) rfl rfl ?aO ?aR (fun _ _ h => h) (fun _ h => h.elim) ?aF ?aB ?aS ?aL ?_; (case aR => exact kc ((Kd.R_reads' HO_6.out).2.2)); (case aB => exact bl); (case aF => exact (fun k_ hk => ⟨(Nat.le_trans (below_size bl) hk), Kd.fresh' (Kd.R_lt (by (with_reducible repeat (first | apply Kd.R_alloc | apply Kd.R_drewN | apply Kd.R_drew)); exact HO_6.out)) k_ hk⟩)); (case aO => exact (by (with_reducible repeat (first | apply Kd.R_alloc | apply Kd.R_drewN | apply Kd.R_drew)); exact Kd.R_mono HO330.out (fun _ hk => ⟨hk.1.1, hk.2⟩))); (case aS => exact (below_size bl)); (case aL => have := LMc44.out; omega); intro v332 w59 ho hb hg hat; rw [← Ny331.out] at ho; replace HO_6 := Aside0.mk (Kd.R_after (ok := (fun k_ => (w.heap.size ≤ k_))) (by (with_reducible repeat (first | apply Kd.R_alloc | apply Kd.R_drewN | apply Kd.R_drew)); exact HO_6.out) hg hat); replace HO_315001 := Aside0.mk (Kd.V_afterv (ok := (fun k_ => (w.heap.size ≤ k_) ∧ some k_ ≠ (.slice Ao60 x6_1.length co60 : Value).ownBlock ∧ k_ ≠ gb310 ∧ k_ ≠ gb311 ∧ k_ ≠ gb312 ∧ k_ ≠ gb313 ∧ k_ ≠ gb314 ∧ k_ ≠ gb315)) (by (with_reducible repeat (first | apply Kd.V_alloc | apply Kd.V_drewN | apply Kd.V_drew)); exact HO_315001.out) hg hat); replace BK310 := Aside0.mk (blk_grown (bk BK310.out) hg (Kd.R_ne HO330.out BK310.out (by decide))); replace BK311 := Aside0.mk (blk_grown (bk BK311.out) hg (Kd.R_ne HO330.out BK311.out (by decide))); replace BK312 := Aside0.mk (blk_grown (bk BK312.out) hg (Kd.R_ne HO330.out BK312.out (by decide))); replace BK313 := Aside0.mk (blk_grown (bk BK313.out) hg (Kd.R_ne HO330.out BK313.out (by decide))); replace BK314 := Aside0.mk (blk_grown (bk BK314.out) hg (Kd.R_ne HO330.out BK314.out (by decide))); replace BK315 := Aside0.mk (blk_grown (bk BK315.out) hg (Kd.R_ne HO330.out BK315.out (by decide))); replace HB := Aside0.mk (hb); have HO333 := Aside0.mk (ho); clear HO330; clear ho hb hg hat))
     go_roundg k2
     case measure => have := HK1.out; have := HK2.out; omega
     case rel => exact ⟨(y331), (wrap64 (x9_1 - 1)), (x315000_2), (x315001_2), (.slice Ao56 x315001_2.length co56), (by first | rfl | (simp; done) | (simp [*]; done)), H', ⟨by have := HK1.out; have := HK2.out; omega⟩, ⟨by (with_reducible repeat (first | apply Kd.R_alloc | apply Kd.R_drewN | apply Kd.R_drew)); exact Kd.R_mono HO333.out (fun _ hk => hk.1)⟩, ⟨by (with_reducible repeat (first | apply Kd.V_alloc | apply Kd.V_drewN | apply Kd.V_drew)); exact Kd.V_mono HO_315001.out (fun _ hk => ⟨hk.1.1, ⟨hk.2, ⟨hk.1.2.2.1, ⟨hk.1.2.2.2.1, ⟨hk.1.2.2.2.2.1, ⟨hk.1.2.2.2.2.2.1, ⟨hk.1.2.2.2.2.2.2.1, hk.1.2.2.2.2.2.2.2⟩⟩⟩⟩⟩⟩⟩)⟩, ⟨bk BK310.out⟩, ⟨bk BK311.out⟩, ⟨bk BK312.out⟩, ⟨bk BK313.out⟩, ⟨bk BK314.out⟩, ⟨bk BK315.out⟩, ⟨bl⟩⟩
  rw [if_neg c27] at H
  have c27b0 : decide (0 ≤ x9_1) = false := decide_eq_false c27
  clear c27
  replace H := Option.bind_eq_some_iff.mp H
  obtain ⟨⟨t338, t339⟩, A770, H⟩ := H
  replace H : (if a0_0 = true then (maskref4_Dec_Split.j2 k1 (decide ((x315001_1.length : Int) > 0)) a1_0 l1_1 x315000_1 x315001_1 false l1_1 t338 t339) else (maskref4_Dec_Split.j2 k1 false a1_0 l1_1 x315000_1 x315001_1 false l1_1 t338 t339)) = some (r1, r2, r3, r4) := H
  have A77 := Aside0.mk A770
  clear A770
  have HC78 := Aside0.mk H
  clear H
  obtain ⟨hcz84_0, hcz84_1, hfz84_0, hfz84_1⟩ := bz2 BK310.out
  obtain ⟨hcz89_0, hcz89_1, hfz89_0, hfz89_1⟩ := bz2 BK311.out
  obtain ⟨Ao90, co90, eo90⟩ := Kd.R_slice HO_6.out
  subst eo90
  go_upto_region 14 with (first | ((with_reducible refine gate_callee (f := 66) rfl ?_); refine goesL_ (some 55) rfl rfl Try.func66 (by kernel_rfl) rfl #[.bool (a0_0 != a1_0), .slice Ao90 x6_1.length co90] rfl (by (try simp only [List.map_toArray, List.map_cons, List.map_nil]); first | done | rfl | (simp only [List.length_drop, List.length_take]; rfl)) ?_; (with_reducible refine (maskref4_trim.calls (a0_0 != a1_0) (fun k_ => some k_ = (.slice Ao90 x6_1.length co90 : Value).ownBlock) _ _ x6_1 t338 t339 _ ?side1 A77.out).mono ?_); (case side1 => exact Kd.R_V (Kd.R_tight rfl (Kd.R_types (Kd.R_types (Kd.R_types (Kd.R_types (Kd.R_types (Kd.R_types (HO_6.out) BK310.out (by decide)) BK311.out (by decide)) BK312.out (by decide)) BK313.out (by decide)) BK314.out (by decide)) BK315.out (by decide)))); rintro e w91 ⟨v340, rfl, ho0, hb⟩; refine ⟨_, rfl, ?_⟩; replace HO_315001 := Aside0.mk (vb HO_315001.out hb); have HO341 := Aside0.mk (Kd.V_lower (Kd.V_mono (ok' := fun k_ => (w.heap.size ≤ k_) ∧ k_ ≠ gb310 ∧ k_ ≠ gb311 ∧ k_ ≠ gb312 ∧ k_ ≠ gb313 ∧ k_ ≠ gb314 ∧ k_ ≠ gb315) ho0 (fun k_ hk_ => ⟨Or.elim hk_ (fun hs_ => ((Kd.R_types (Kd.R_types (Kd.R_types (Kd.R_types (Kd.R_types (Kd.R_types (HO_6.out) BK310.out (by decide)) BK311.out (by decide)) BK312.out (by decide)) BK313.out (by decide)) BK314.out (by decide)) BK315.out (by decide)).1 k_ hs_.symm).1.1.1.1.1.1) (fun hn_ => (Nat.le_trans (below_size bl) hn_)), Or.elim hk_ (fun hs_ => ((Kd.R_types (Kd.R_types (Kd.R_types (Kd.R_types (Kd.R_types (Kd.R_types (HO_6.out) BK310.out (by decide)) BK311.out (by decide)) BK312.out (by decide)) BK313.out (by decide)) BK314.out (by decide)) BK315.out (by decide)).1 k_ hs_.symm).1.1.1.1.1.2) (fun hn_ => (Kd.freshB (g := gb310) (o := .cells #[.bool a0_0, .slice A0_1 l0_1.length c0_1] 36 (0, 0)) (bk BK310.out) k_ hn_)), Or.elim hk_ (fun hs_ => ((Kd.R_types (Kd.R_types (Kd.R_types (Kd.R_types (Kd.R_types (Kd.R_types (HO_6.out) BK310.out (by decide)) BK311.out (by decide)) BK312.out (by decide)) BK313.out (by decide)) BK314.out (by decide)) BK315.out (by decide)).1 k_ hs_.symm).1.1.1.1.2) (fun hn_ => (Kd.freshB (g := gb311) (o := .cells #[.bool a1_0, .slice A1_1 l1_1.length c1_1] 36 (0, 0)) (bk BK311.out) k_ hn_)), Or.elim hk_ (fun hs_ => ((Kd.R_types (Kd.R_types (Kd.R_types (Kd.R_types (Kd.R_types (Kd.R_types (HO_6.out) BK310.out (by decide)) BK311.out (by decide)) BK312.out (by decide)) BK313.out (by decide)) BK314.out (by decide)) BK315.out (by decide)).1 k_ hs_.symm).1.1.1.2) (fun hn_ => (Kd.freshB (g := gb312) (o := .cells #[.bool false, .slice none 0 0] 36 (0, 0)) (bk BK312.out) k_ hn_)), Or.elim hk_ (fun hs_ => ((Kd.R_types (Kd.R_types (Kd.R_types (Kd.R_types (Kd.R_types (Kd.R_types (HO_6.out) BK310.out (by decide)) BK311.out (by decide)) BK312.out (by decide)) BK313.out (by decide)) BK314.out (by decide)) BK315.out (by decide)).1 k_ hs_.symm).1.1.2) (fun hn_ => (Kd.freshB (g := gb313) (o := .cells #[.bool false, .slice none 0 0] 36 (0, 0)) (bk BK313.out) k_ hn_)), Or.elim hk_ (fun hs_ => ((Kd.R_types (Kd.R_types (Kd.R_types (Kd.R_types (Kd.R_types (Kd.R_types (HO_6.out) BK310.out (by decide)) BK311.out (by decide)) BK312.out (by decide)) BK313.out (by decide)) BK314.out (by decide)) BK315.out (by decide)).1 k_ hs_.symm).1.2) (fun hn_ => (Kd.freshB (g := gb314) (o := .cells #[.bool x315000_1, u315001] 36 (0, 0)) (bk BK314.out) k_ hn_)), Or.elim hk_ (fun hs_ => ((Kd.R_types (Kd.R_types (Kd.R_types (Kd.R_types (Kd.R_types (Kd.R_types (HO_6.out) BK310.out (by decide)) BK311.out (by decide)) BK312.out (by decide)) BK313.out (by decide)) BK314.out (by decide)) BK315.out (by decide)).1 k_ hs_.symm).2) (fun hn_ => (Kd.freshB (g := gb315) (o := .cells #[.bool false, .slice A1_1 l1_1.length c1_1] 36 (0, 0)) (bk BK315.out) k_ hn_))⟩)) (below_size bl)); replace HO_6 := Aside0.mk (rb HO_6.out hb); replace BK310 := Aside0.mk (bb BK310.out hb); replace BK311 := Aside0.mk (bb BK311.out hb); replace BK312 := Aside0.mk (bb BK312.out hb); replace BK313 := Aside0.mk (bb BK313.out hb); replace BK314 := Aside0.mk (bb BK314.out hb); replace BK315 := Aside0.mk (bb BK315.out hb); replace HB := Aside0.mk (below_step bl hb); (try clear hb); (try clear ho0)) | ((with_reducible refine gate_dst (N := 11) rfl ?_); (try (refine gate_guard (by rfl) ?_; dsimp only)); refine box_event ?hg (N := 11) ?hd (cs := #[.bool false, .slice none 0 0]) (t := 36) ?hr ?_; (case hd => rfl); (case hg => rfl); (case hr => first | (go_simp; done) | (go_simp; rfl)); intro gb342 hg w92 hbox hb; replace HO_6 := Aside0.mk (rb HO_6.out hb); replace HO_315001 := Aside0.mk (Kd.V_below (Kd.V_elderB (by (with_reducible repeat (first | apply Kd.V_alloc | apply Kd.V_drewN | apply Kd.V_drew)); exact HO_315001.out) gb342 (Nat.le_of_eq hg.symm)) hb); replace HO341 := Aside0.mk (Kd.V_below (Kd.V_elderB (by (with_reducible repeat (first | apply Kd.V_alloc | apply Kd.V_drewN | apply Kd.V_drew)); exact HO341.out) gb342 (Nat.le_of_eq hg.symm)) hb); have BK342 := Aside0.mk (hbox); have GE342 := Aside0.mk (ge (w := w) hg); replace HB := Aside0.mk (below_step bl hb); have NB310_342 := Aside0.mk (nl hg (bk BK310.out)); have NB342_310 := Aside0.mk (ng hg (bk BK310.out)); replace BK310 := Aside0.mk (bb BK310.out hb); have NB311_342 := Aside0.mk (nl hg (bk BK311.out)); have NB342_311 := Aside0.mk (ng hg (bk BK311.out)); replace BK311 := Aside0.mk (bb BK311.out hb); have NB312_342 := Aside0.mk (nl hg (bk BK312.out)); have NB342_312 := Aside0.mk (ng hg (bk BK312.out)); replace BK312 := Aside0.mk (bb BK312.out hb); have NB313_342 := Aside0.mk (nl hg (bk BK313.out)); have NB342_313 := Aside0.mk (ng hg (bk BK313.out)); replace BK313 := Aside0.mk (bb BK313.out hb); have NB314_342 := Aside0.mk (nl hg (bk BK314.out)); have NB342_314 := Aside0.mk (ng hg (bk BK314.out)); replace BK314 := Aside0.mk (bb BK314.out hb); have NB315_342 := Aside0.mk (nl hg (bk BK315.out)); have NB342_315 := Aside0.mk (ng hg (bk BK315.out)); replace BK315 := Aside0.mk (bb BK315.out hb); clear hb hbox hg; obtain ⟨hcz99_0, hcz99_1, hfz99_0, hfz99_1⟩ := bz2 BK342.out; obtain ⟨Ao100, co100, eo100⟩ := Kd.V_slice HO341.out; subst eo100))
  (try simp only [Act.put, z1, z2, z3])
  go_cut [63] (fun v63 wc => ∃ (kq : Nat) (x63_77 : Bool), v63 = .bool x63_77 ∧ Aside0 (maskref4_Dec_Split.j2 kq x63_77 a1_0 l1_1 x315000_1 x315001_1 false l1_1 t338 t339 = some (r1, r2, r3, r4)) ∧ Aside0 (kq ≤ k1) ∧ Aside0 (Kd.V (Kd.int .i64) 3 wc w.heap.size (fun k_ => (w.heap.size ≤ k_) ∧ k_ ≠ gb310 ∧ k_ ≠ gb311 ∧ k_ ≠ gb312 ∧ k_ ≠ gb313 ∧ k_ ≠ gb314 ∧ k_ ≠ gb315 ∧ k_ ≠ gb342) u315001 x315001_1) ∧ Aside0 (Kd.V (Kd.int .i64) 3 wc w.heap.size (fun k_ => (w.heap.size ≤ k_) ∧ k_ ≠ gb310 ∧ k_ ≠ gb311 ∧ k_ ≠ gb312 ∧ k_ ≠ gb313 ∧ k_ ≠ gb314 ∧ k_ ≠ gb315 ∧ k_ ≠ gb342) (.slice Ao100 t339.length co100) t339) ∧ Aside0 (wc.heap[gb310]? = some (.cells #[.bool a0_0, (.slice A0_1 l0_1.length c0_1)] 36 (0, 0))) ∧ Aside0 (wc.heap[gb311]? = some (.cells #[.bool a1_0, (.slice A1_1 l1_1.length c1_1)] 36 (0, 0))) ∧ Aside0 (wc.heap[gb312]? = some (.cells #[.bool false, (.slice none 0 0)] 36 (0, 0))) ∧ Aside0 (wc.heap[gb313]? = some (.cells #[.bool false, (.slice none 0 0)] 36 (0, 0))) ∧ Aside0 (wc.heap[gb314]? = some (.cells #[.bool x315000_1, u315001] 36 (0, 0))) ∧ Aside0 (wc.heap[gb315]? = some (.cells #[.bool false, (.slice A1_1 l1_1.length c1_1)] 36 (0, 0))) ∧ Aside0 (wc.heap[gb342]? = some (.cells #[.bool t338, (.slice Ao100 t339.length co100)] 36 (0, 0))) ∧ Aside0 (Below w.heap.size w wc))
  case first =>
   have H := HC78.out
   clear HC78
   by_cases c101 : a0_0 = true
   rotate_left
   · replace c101 := Bool.eq_false_iff.mpr c101
     subst c101
     have H1 : (maskref4_Dec_Split.j2 k1 false a1_0 l1_1 x315000_1 x315001_1 false l1_1 t338 t339) = some (r1, r2, r3, r4) := by rw [if_neg (show ¬ (false = true) by decide)] at H; exact H
     clear H
     have H := H1
     clear H1
     have H' := Aside0.mk H
     clear H
     have hnc121 := NB342_310.out
     obtain ⟨hcz122_0, hcz122_1, hfz122_0, hfz122_1⟩ := bz2 BK310.out
     go_wp2
     go_meet
     case rel => exact ⟨_, (false), (by first | rfl | (simp; done) | (simp [*]; done)), H', ⟨by have := HK1.out; first | omega | exact Nat.le_refl _⟩, ⟨by (with_reducible repeat (first | apply Kd.V_alloc | apply Kd.V_drewN | apply Kd.V_drew)); exact Kd.V_mono (Kd.V_far (p := ⟨gb342, 1, none⟩) (Kd.V_far (p := ⟨gb342, 0, none⟩) (Kd.V_mono HO_315001.out (fun k_ hk => (⟨hk, hk.2⟩ : _ ∧ k_ ≠ gb342))) (fun _ hk => hk.2) (.bool t338)) (fun _ hk => hk.2) (.slice Ao100 t339.length co100)) (fun _ hk => ⟨hk.1.1.1, ⟨hk.1.1.2.2.1, ⟨hk.1.1.2.2.2.1, ⟨hk.1.1.2.2.2.2.1, ⟨hk.1.1.2.2.2.2.2.1, ⟨hk.1.1.2.2.2.2.2.2.1, ⟨hk.1.1.2.2.2.2.2.2.2, hk.1.2⟩⟩⟩⟩⟩⟩⟩)⟩, ⟨by (with_reducible repeat (first | apply Kd.V_alloc | apply Kd.V_drewN | apply Kd.V_drew)); exact Kd.V_mono (Kd.V_far (p := ⟨gb342, 1, none⟩) (Kd.V_far (p := ⟨gb342, 0, none⟩) (Kd.V_mono HO341.out (fun k_ hk => (⟨hk, hk.2⟩ : _ ∧ k_ ≠ gb342))) (fun _ hk => hk.2) (.bool t338)) (fun _ hk => hk.2) (.slice Ao100 t339.length co100)) (fun _ hk => ⟨hk.1.1.1, ⟨hk.1.1.2.1, ⟨hk.1.1.2.2.1, ⟨hk.1.1.2.2.2.1, ⟨hk.1.1.2.2.2.2.1, ⟨hk.1.1.2.2.2.2.2.1, ⟨hk.1.1.2.2.2.2.2.2, hk.1.2⟩⟩⟩⟩⟩⟩⟩)⟩, ⟨bf BK310.out⟩, ⟨bf BK311.out⟩, ⟨bf BK312.out⟩, ⟨bf BK313.out⟩, ⟨bf BK314.out⟩, ⟨bf BK315.out⟩, ⟨by (with_reducible repeat (first | refine blk_drewN ?_ _ | refine blk_drew ?_ | refine blk_alloc ?_ _)); refine blk_put (cs := #[.bool t338, .slice none 0 0]) ?_ 1 _ rfl; (with_reducible repeat (first | refine blk_drewN ?_ _ | refine blk_drew ?_ | refine blk_alloc ?_ _)); refine blk_put (cs := #[.bool false, .slice none 0 0]) ?_ 0 _ rfl; (with_reducible repeat (first | refine blk_drewN ?_ _ | refine blk_drew ?_ | refine blk_alloc ?_ _)); exact BK342.out⟩, ⟨bl⟩⟩
   subst c101
   have H1 : (maskref4_Dec_Split.j2 k1 (decide ((x315001_1.length : Int) > 0)) a1_0 l1_1 x315000_1 x315001_1 false l1_1 t338 t339) = some (r1, r2, r3, r4) := by rw [if_pos rfl] at H; exact H
   clear H
   have H := H1
   clear H1
   have H' := Aside0.mk H
   clear H
   have hnc107 := NB342_310.out
   obtain ⟨hcz108_0, hcz108_1, hfz108_0, hfz108_1⟩ := bz2 BK310.out
   have hnb109 := NB314_311.out
   have hnc109 := NB311_314.out
   have hnb110 := NB314_312.out
   have hnc110 := NB312_314.out
   have hnb111 := NB314_313.out
   have hnc111 := NB313_314.out
   have hnb112 := NB314_315.out
   have hnc112 := NB315_314.out
   have hnb113 := NB314_342.out
   have hnc113 := NB342_314.out
   obtain ⟨hcz114_0, hcz114_1, hfz114_0, hfz114_1⟩ := bz2 BK314.out
   obtain ⟨Ao115, co115, eo115⟩ := Kd.V_slice HO_315001.out
   subst eo115
   go_wp2
   go_meet
   case rel => exact ⟨_, (decide ((x315001_1.length : Int) > 0)), (by first | rfl | (simp; done) | (simp [*]; done)), H', ⟨by have := HK1.out; first | omega | exact Nat.le_refl _⟩, ⟨by (with_reducible repeat (first | apply Kd.V_alloc | apply Kd.V_drewN | apply Kd.V_drew)); exact Kd.V_mono (Kd.V_far (p := ⟨gb342, 1, none⟩) (Kd.V_far (p := ⟨gb342, 0, none⟩) (Kd.V_mono HO_315001.out (fun k_ hk => (⟨hk, hk.2⟩ : _ ∧ k_ ≠ gb342))) (fun _ hk => hk.2) (.bool t338)) (fun _ hk => hk.2) (.slice Ao100 t339.length co100)) (fun _ hk => ⟨hk.1.1.1, ⟨hk.1.1.2.2.1, ⟨hk.1.1.2.2.2.1, ⟨hk.1.1.2.2.2.2.1, ⟨hk.1.1.2.2.2.2.2.1, ⟨hk.1.1.2.2.2.2.2.2.1, ⟨hk.1.1.2.2.2.2.2.2.2, hk.1.2⟩⟩⟩⟩⟩⟩⟩)⟩, ⟨by (with_reducible repeat (first | apply Kd.V_alloc | apply Kd.V_drewN | apply Kd.V_drew)); exact Kd.V_mono (Kd.V_far (p := ⟨gb342, 1, none⟩) (Kd.V_far (p := ⟨gb342, 0, none⟩) (Kd.V_mono HO341.out (fun k_ hk => (⟨hk, hk.2⟩ : _ ∧ k_ ≠ gb342))) (fun _ hk => hk.2) (.bool t338)) (fun _ hk => hk.2) (.slice Ao100 t339.length co100)) (fun _ hk => ⟨hk.1.1.1, ⟨hk.1.1.2.1, ⟨hk.1.1.2.2.1, ⟨hk.1.1.2.2.2.1, ⟨hk.1.1.2.2.2.2.1, ⟨hk.1.1.2.2.2.2.2.1, ⟨hk.1.1.2.2.2.2.2.2, hk.1.2⟩⟩⟩⟩⟩⟩⟩)⟩, ⟨bf BK310.out⟩, ⟨bf BK311.out⟩, ⟨bf BK312.out⟩, ⟨bf BK313.out⟩, ⟨bf BK314.out⟩, ⟨bf BK315.out⟩, ⟨by (with_reducible repeat (first | refine blk_drewN ?_ _ | refine blk_drew ?_ | refine blk_alloc ?_ _)); refine blk_put (cs := #[.bool t338, .slice none 0 0]) ?_ 1 _ rfl; (with_reducible repeat (first | refine blk_drewN ?_ _ | refine blk_drew ?_ | refine blk_alloc ?_ _)); refine blk_put (cs := #[.bool false, .slice none 0 0]) ?_ 0 _ rfl; (with_reducible repeat (first | refine blk_drewN ?_ _ | refine blk_drew ?_ | refine blk_alloc ?_ _)); exact BK342.out⟩, ⟨bl⟩⟩
  clear HC78
  clear c27b0 hcz84_0 hcz84_1 hcz89_0 hcz89_1 hcz99_0 hcz99_1 hfz84_0 hfz84_1 hfz89_0 hfz89_1 hfz99_0 hfz99_1
  obtain ⟨kq, x63_77, rfl, HA, HJ77, HO_315001, HO_343001, BK310, BK311, BK312, BK313, BK314, BK315, BK342, HB⟩ := hcut
  cases kq with
  | zero => exact absurd HA.out (by simp [maskref4_Dec_Split.j2])
  | succ kj77 =>
   have H := HA.out
   clear HA
   simp only [maskref4_Dec_Split.j2] at H
   by_cases c123 : x63_77 = true
   rotate_left
   · replace c123 := Bool.eq_false_iff.mpr c123
     subst c123
     have H1 : (some (t338, t339, x315000_1, x315001_1)) = some (r1, r2, r3, r4) := by rw [if_neg (show ¬ (false = true) by decide)] at H; exact H
     clear H
     have H := H1
     clear H1
     simp only [Option.some.injEq, Prod.mk.injEq] at H
     obtain ⟨rfl, rfl, rfl, rfl⟩ := H
     try go_wp2
     have n0_ := Aside0.mk (Kd.V_drew HO_315001.out)
     have n1_ := Aside0.mk (Kd.V_drew HO_343001.out)
     have n2_ := Aside0.mk (blk_drew BK310.out)
     have n3_ := Aside0.mk (blk_drew BK311.out)
     have n4_ := Aside0.mk (blk_drew BK312.out)
     have n5_ := Aside0.mk (blk_drew BK313.out)
     have n6_ := Aside0.mk (blk_drew BK314.out)
     have n7_ := Aside0.mk (blk_drew BK315.out)
     have n8_ := Aside0.mk (blk_drew BK342.out)
     have n9_ := Aside0.mk (below_drew1 HB.out)
     clear HO_315001
     clear HO_343001
     clear BK310
     clear BK311
     clear BK312
     clear BK313
     clear BK314
     clear BK315
     clear BK342
     clear HB
     have HO_315001 := n0_
     have HO_343001 := n1_
     have BK310 := n2_
     have BK311 := n3_
     have BK312 := n4_
     have BK313 := n5_
     have BK314 := n6_
     have BK315 := n7_
     have BK342 := n8_
     have HB := n9_
     clear n0_ n1_ n2_ n3_ n4_ n5_ n6_ n7_ n8_ n9_
     obtain ⟨Ao206, co206, eo206⟩ := Kd.V_slice HO_315001.out
     (first | subst eo206 | (injection eo206 with f1_ f2_ f3_; have f4_ := f1_.symm; have f5_ := f3_.symm; clear f1_ f2_ f3_; subst f4_; subst f5_))
     refine start_ (n := 4) (S := fun w' => w'.cell? ⟨gb342, 0, none⟩ = some (.bool t338) ∧ w'.cell? ⟨gb342, 1, none⟩ = some (.slice Ao100 t339.length co100) ∧ w'.cell? ⟨gb314, 0, none⟩ = some (.bool x315000_1) ∧ w'.cell? ⟨gb314, 1, none⟩ = some (.slice Ao206 x315001_1.length co206)) (ds := []) #[false,false,false,false] (by kernel_rfl) rfl rfl ⟨(blk_cell BK342.out 0).trans rfl, (blk_cell BK342.out 1).trans rfl, (blk_cell BK314.out 0).trans rfl, (blk_cell BK314.out 1).trans rfl⟩ (fun hHeld => ?_)
     generalize wc.drew = w202 at HO_315001 HO_343001 BK310 BK311 BK312 BK313 BK314 BK315 BK342 HB hHeld ⊢
     refine take_ (i := 0) (N := some 75) (v := ?_) (a' := ?_) #[true,false,false,false] rfl rfl (by kernel_rfl) (fun _ _ _ h => h) (Or.inl ⟨by rfl, ?_⟩) hHeld ?_ ?_
     rotate_left
     · rintro w' ⟨s0, s1, s2, s3⟩
       go_simp
       with_reducible rfl
     rotate_left; focus (simp only [Act.put, z1, z2, z3, i64_w, i32_w]; rfl)
     refine take_ (i := 1) (N := some 76) (v := ?_) (a' := ?_) #[true,true,false,false] rfl rfl (by kernel_rfl) (fun _ _ _ h => h) (Or.inl ⟨by rfl, ?_⟩) hHeld ?_ ?_
     rotate_left
     · rintro w' ⟨s0, s1, s2, s3⟩
       go_simp
       with_reducible rfl
     rotate_left; focus (simp only [Act.put, z1, z2, z3, i64_w, i32_w]; rfl)
     refine one_ (i := 2) (N := none) #[true,true,true,false] rfl rfl (by kernel_rfl) (by decide) (fun K hK => ?_)
     have hs203 : w202.cell? ⟨gb312, 0, none⟩ = some (.bool false) := (blk_cell BK312.out 0).trans rfl
     have hfs203 := blk_frozen BK312.out 0
     have hs204 : w202.cell? ⟨gb312, 1, none⟩ = some (.slice none 0 0) := (blk_cell BK312.out 1).trans rfl
     have hfs204 := blk_frozen BK312.out 1
     refine skip_ (w1 := ?_) (by rfl) rfl ?_ ?_
     rotate_left; focus (go_simp; rfl)
     refine hK.out _ _ ⟨((cell_far (p := ⟨gb312, _, none⟩) NB342_312.out _).trans (((cell_far (p := ⟨gb312, _, none⟩) NB342_312.out _).trans (hHeld.1)))), ((cell_far (p := ⟨gb312, _, none⟩) NB342_312.out _).trans (((cell_far (p := ⟨gb312, _, none⟩) NB342_312.out _).trans (hHeld.2.1)))), ((cell_far (p := ⟨gb312, _, none⟩) NB314_312.out _).trans (((cell_far (p := ⟨gb312, _, none⟩) NB314_312.out _).trans (hHeld.2.2.1)))), ((cell_far (p := ⟨gb312, _, none⟩) NB314_312.out _).trans (((cell_far (p := ⟨gb312, _, none⟩) NB314_312.out _).trans (hHeld.2.2.2))))⟩ (fun hHeld => ?_)
     clear hK K
     refine one_ (i := 3) (N := none) #[true,true,true,true] rfl rfl (by kernel_rfl) (by decide) (fun K hK => ?_)
     have hs205 : w202.cell? ⟨gb313, 0, none⟩ = some (.bool false) := (blk_cell BK313.out 0).trans rfl
     have hfs205 := blk_frozen BK313.out 0
     have hs207 : w202.cell? ⟨gb313, 1, none⟩ = some (.slice none 0 0) := (blk_cell BK313.out 1).trans rfl
     have hfs207 := blk_frozen BK313.out 1
     have hms207_2 := NB313_312.out
     have hms207_4 := NB313_314.out
     have hms207_5 := NB313_315.out
     have hms207_6 := NB313_342.out
     refine skip_ (w1 := ?_) (by rfl) rfl ?_ ?_
     rotate_left; focus (go_simp; rfl)
     refine hK.out _ _ ⟨((cell_far (p := ⟨gb313, _, none⟩) NB342_313.out _).trans (((cell_far (p := ⟨gb313, _, none⟩) NB342_313.out _).trans (hHeld.1)))), ((cell_far (p := ⟨gb313, _, none⟩) NB342_313.out _).trans (((cell_far (p := ⟨gb313, _, none⟩) NB342_313.out _).trans (hHeld.2.1)))), ((cell_far (p := ⟨gb313, _, none⟩) NB314_313.out _).trans (((cell_far (p := ⟨gb313, _, none⟩) NB314_313.out _).trans (hHeld.2.2.1)))), ((cell_far (p := ⟨gb313, _, none⟩) NB314_313.out _).trans (((cell_far (p := ⟨gb313, _, none⟩) NB314_313.out _).trans (hHeld.2.2.2))))⟩ (fun hHeld => ?_)
     clear hK K
     refine done_ (by kernel_rfl) ?_
     try go_wp2
     refine bodyPost_ret (results_cc rfl _ _ gb312 gb313 36 36 #[.bool t338, .slice Ao100 t339.length co100] #[.bool x315000_1, .slice Ao206 x315001_1.length co206] (0, 0) (0, 0) _ _ rfl (by (with_reducible repeat (first | refine blk_drewN ?_ _ | refine blk_drew ?_ | refine blk_alloc ?_ _)); refine blk_far ?_ NB312_313.out _; (with_reducible repeat (first | refine blk_drewN ?_ _ | refine blk_drew ?_ | refine blk_alloc ?_ _)); refine blk_far ?_ NB312_313.out _; (with_reducible repeat (first | refine blk_drewN ?_ _ | refine blk_drew ?_ | refine blk_alloc ?_ _)); refine blk_put (cs := #[.bool t338, .slice none 0 0]) ?_ 1 _ rfl; (with_reducible repeat (first | refine blk_drewN ?_ _ | refine blk_drew ?_ | refine blk_alloc ?_ _)); refine blk_put (cs := #[.bool false, .slice none 0 0]) ?_ 0 _ rfl; (with_reducible repeat (first | refine blk_drewN ?_ _ | refine blk_drew ?_ | refine blk_alloc ?_ _)); exact BK312.out) Try.underlying36 rfl (by kernel_rfl) rfl (by (with_reducible repeat (first | refine blk_drewN ?_ _ | refine blk_drew ?_ | refine blk_alloc ?_ _)); refine blk_put (cs := #[.bool x315000_1, .slice none 0 0]) ?_ 1 _ rfl; (with_reducible repeat (first | refine blk_drewN ?_ _ | refine blk_drew ?_ | refine blk_alloc ?_ _)); refine blk_put (cs := #[.bool false, .slice none 0 0]) ?_ 0 _ rfl; (with_reducible repeat (first | refine blk_drewN ?_ _ | refine blk_drew ?_ | refine blk_alloc ?_ _)); refine blk_far ?_ NB313_312.out _; (with_reducible repeat (first | refine blk_drewN ?_ _ | refine blk_drew ?_ | refine blk_alloc ?_ _)); refine blk_far ?_ NB313_312.out _; (with_reducible repeat (first | refine blk_drewN ?_ _ | refine blk_drew ?_ | refine blk_alloc ?_ _)); exact BK313.out) Try.underlying36 rfl (by kernel_rfl)) rfl ?_
     exact ⟨_, _, by first | rfl | (simp [errW_none, errW_some] <;> rfl) | (simp [*, errW_none, errW_some] <;> rfl), by (with_reducible repeat (first | apply Kd.V_alloc | apply Kd.V_drewN | apply Kd.V_drew)); exact Kd.V_mono (Kd.V_far (p := ⟨gb313, 1, none⟩) (Kd.V_far (p := ⟨gb313, 0, none⟩) (Kd.V_far (p := ⟨gb312, 1, none⟩) (Kd.V_far (p := ⟨gb312, 0, none⟩) (Kd.V_mono (Kd.V_mono HO_343001.out (fun k_ hk => (⟨hk, hk.2.2.2.1⟩ : _ ∧ k_ ≠ gb312))) (fun k_ hk => (⟨hk, hk.1.2.2.2.2.1⟩ : _ ∧ k_ ≠ gb313))) (fun _ hk => hk.1.2) (.bool t338)) (fun _ hk => hk.1.2) (.slice Ao100 t339.length co100)) (fun _ hk => hk.2) (.bool x315000_1)) (fun _ hk => hk.2) (.slice Ao206 x315001_1.length co206)) (fun _ hk => hk.1.1.1), by (with_reducible repeat (first | apply Kd.V_alloc | apply Kd.V_drewN | apply Kd.V_drew)); exact Kd.V_mono (Kd.V_far (p := ⟨gb313, 1, none⟩) (Kd.V_far (p := ⟨gb313, 0, none⟩) (Kd.V_far (p := ⟨gb312, 1, none⟩) (Kd.V_far (p := ⟨gb312, 0, none⟩) (Kd.V_mono (Kd.V_mono HO_315001.out (fun k_ hk => (⟨hk, hk.2.2.2.1⟩ : _ ∧ k_ ≠ gb312))) (fun k_ hk => (⟨hk, hk.1.2.2.2.2.1⟩ : _ ∧ k_ ≠ gb313))) (fun _ hk => hk.1.2) (.bool t338)) (fun _ hk => hk.1.2) (.slice Ao100 t339.length co100)) (fun _ hk => hk.2) (.bool x315000_1)) (fun _ hk => hk.2) (.slice Ao206 x315001_1.length co206)) (fun _ hk => hk.1.1.1), bl⟩
   subst c123
   have H1 : ((maskref4_Dec_Minus.f kj77 false l1_1 x315000_1 x315001_1).bind fun bt343 => (if a1_0 = true then ((maskref4_DecInt.f kj77 1).bind fun bt347 => ((maskref4_Dec_Plus.f kj77 t338 t339 bt347.1 bt347.2).bind fun bt351 => (some (bt351.1, bt351.2, bt343.1, bt343.2)))) else ((maskref4_DecInt.f kj77 1).bind fun bt355 => ((maskref4_Dec_Minus.f kj77 t338 t339 bt355.1 bt355.2).bind fun bt359 => (some (bt359.1, bt359.2, bt343.1, bt343.2)))))) = some (r1, r2, r3, r4) := by rw [if_pos rfl] at H; exact H
   clear H
   have H := H1
   clear H1
   replace H := Option.bind_eq_some_iff.mp H
   obtain ⟨⟨t343, t344⟩, A1240, H⟩ := H
   replace H : (if a1_0 = true then ((maskref4_DecInt.f kj77 1).bind fun bt347 => ((maskref4_Dec_Plus.f kj77 t338 t339 bt347.1 bt347.2).bind fun bt351 => (some (bt351.1, bt351.2, t343, t344)))) else ((maskref4_DecInt.f kj77 1).bind fun bt355 => ((maskref4_Dec_Minus.f kj77 t338 t339 bt355.1 bt355.2).bind fun bt359 => (some (bt359.1, bt359.2, t343, t344))))) = some (r1, r2, r3, r4) := H
   have A124 := Aside0.mk A1240
   clear A1240
   by_cases c125 : a1_0 = true
   · subst c125
     have H1 : ((maskref4_DecInt.f kj77 1).bind fun bt347 => ((maskref4_Dec_Plus.f kj77 t338 t339 bt347.1 bt347.2).bind fun bt351 => (some (bt351.1, bt351.2, t343, t344)))) = some (r1, r2, r3, r4) := by rw [if_pos rfl] at H; exact H
     clear H
     have H := H1
     clear H1
     replace H := Option.bind_eq_some_iff.mp H
     obtain ⟨⟨t347, t348⟩, A1260, H⟩ := H
     replace H : ((maskref4_Dec_Plus.f kj77 t338 t339 t347 t348).bind fun bt351 => (some (bt351.1, bt351.2, t343, t344))) = some (r1, r2, r3, r4) := H
     have A126 := Aside0.mk A1260
     clear A1260
     replace H := Option.bind_eq_some_iff.mp H
     obtain ⟨⟨t351, t352⟩, A1270, H⟩ := H
     replace H : (some (t351, t352, t343, t344)) = some (r1, r2, r3, r4) := H
     have A127 := Aside0.mk A1270
     clear A1270
     simp only [Option.some.injEq, Prod.mk.injEq] at H
     obtain ⟨rfl, rfl, rfl, rfl⟩ := H
     obtain ⟨hcz134_0, hcz134_1, hfz134_0, hfz134_1⟩ := bz2 BK315.out
     have hnc136 := NB311_314.out
     have hnb137 := NB314_312.out
     have hnc137 := NB312_314.out
     have hnb138 := NB314_313.out
     have hnc138 := NB313_314.out
     have hnb139 := NB314_342.out
     have hnc139 := NB342_314.out
     obtain ⟨hcz140_0, hcz140_1, hfz140_0, hfz140_1⟩ := bz2 BK314.out
     obtain ⟨Ao141, co141, eo141⟩ := Kd.V_slice HO_315001.out
     subst eo141
     try go_wp2_with ((with_reducible refine gate_callee (f := 47) rfl ?_); refine goesL_ (some 66) rfl rfl Try.func47 (by kernel_rfl) rfl #[.agg #[.bool false, .slice A1_1 l1_1.length c1_1], .agg #[.bool x315000_1, .slice Ao141 x315001_1.length co141]] rfl (by (try simp only [List.map_toArray, List.map_cons, List.map_nil]); first | done | rfl | (simp only [List.length_drop, List.length_take]; rfl)) ?_; (with_reducible refine (maskref4_Dec_Minus.calls kj77 false _ _ l1_1 x315000_1 _ _ x315001_1 t343 t344 _ ?side1 ?side2 ?side3 ?side4 A124.out).mono ?_); (case side1 => exact kc (Kd.C_below HR1_1.out HB.out)); (case side2 => exact HC1_1.out); (case side3 => exact kc ((Kd.V_reads' HO_315001.out).2.2)); (case side4 => exact (Kd.V_reads' HO_315001.out).2.1); rintro e w142 ⟨v345, rfl, ho0, hb⟩; refine ⟨_, rfl, ?_⟩; replace HO_315001 := Aside0.mk (vb HO_315001.out hb); replace HO_343001 := Aside0.mk (vb HO_343001.out hb); have HO346 := Aside0.mk (Kd.V_lower (Kd.V_mono (ok' := fun k_ => (w.heap.size ≤ k_) ∧ k_ ≠ gb310 ∧ k_ ≠ gb311 ∧ k_ ≠ gb312 ∧ k_ ≠ gb313 ∧ k_ ≠ gb314 ∧ k_ ≠ gb315 ∧ k_ ≠ gb342) ho0 (fun k_ hk_ => ⟨(Nat.le_trans (below_size bl) hk_), (Kd.freshB (g := gb310) (o := .cells #[.bool a0_0, .slice A0_1 l0_1.length c0_1] 36 (0, 0)) (bk BK310.out) k_ hk_), (Kd.freshB (g := gb311) (o := .cells #[.bool true, .slice A1_1 l1_1.length c1_1] 36 (0, 0)) (bk BK311.out) k_ hk_), (Kd.freshB (g := gb312) (o := .cells #[.bool false, .slice none 0 0] 36 (0, 0)) (bk BK312.out) k_ hk_), (Kd.freshB (g := gb313) (o := .cells #[.bool false, .slice none 0 0] 36 (0, 0)) (bk BK313.out) k_ hk_), (Kd.freshB (g := gb314) (o := .cells #[.bool x315000_1, .slice Ao141 x315001_1.length co141] 36 (0, 0)) (bk BK314.out) k_ hk_), (Kd.freshB (g := gb315) (o := .cells #[.bool false, .slice A1_1 l1_1.length c1_1] 36 (0, 0)) (bk BK315.out) k_ hk_), (Kd.freshB (g := gb342) (o := .cells #[.bool t338, .slice Ao100 t339.length co100] 36 (0, 0)) (bk BK342.out) k_ hk_)⟩)) (below_size bl)); replace BK310 := Aside0.mk (bb BK310.out hb); replace BK311 := Aside0.mk (bb BK311.out hb); replace BK312 := Aside0.mk (bb BK312.out hb); replace BK313 := Aside0.mk (bb BK313.out hb); replace BK314 := Aside0.mk (bb BK314.out hb); replace BK315 := Aside0.mk (bb BK315.out hb); replace BK342 := Aside0.mk (bb BK342.out hb); replace HB := Aside0.mk (below_step bl hb); (try clear hb); (try clear ho0); obtain ⟨hcz143_0, hcz143_1, hfz143_0, hfz143_1⟩ := bz2 BK314.out; obtain ⟨Ao144, co144, eo144⟩ := Kd.V_slice HO346.out; subst eo144; have hnb145 := NB311_310.out; have hnc145 := NB310_311.out; have hnb146 := NB311_312.out; have hnc146 := NB312_311.out; have hnb147 := NB311_313.out; have hnc147 := NB313_311.out; have hnb148 := NB311_342.out; have hnc148 := NB342_311.out; obtain ⟨hcz149_0, hcz149_1, hfz149_0, hfz149_1⟩ := bz2 BK311.out)
     have n0_ : Aside0 (Kd.V (Kd.int .i64) 3 ((w142.setCell ⟨gb314, 0, none⟩ (.bool t343)).setCell ⟨gb314, 1, none⟩ (.slice Ao144 t344.length co144)) w.heap.size (fun k_ => (w.heap.size ≤ k_) ∧ k_ ≠ gb310 ∧ k_ ≠ gb311 ∧ k_ ≠ gb312 ∧ k_ ≠ gb313 ∧ k_ ≠ gb314 ∧ k_ ≠ gb315 ∧ k_ ≠ gb342) (.slice Ao141 x315001_1.length co141) x315001_1) := ⟨by (with_reducible repeat (first | apply Kd.V_alloc | apply Kd.V_drewN | apply Kd.V_drew)); exact Kd.V_mono (Kd.V_far (p := ⟨gb314, 1, none⟩) (Kd.V_far (p := ⟨gb314, 0, none⟩) (Kd.V_mono HO_315001.out (fun k_ hk => (⟨hk, hk.2.2.2.2.2.1⟩ : _ ∧ k_ ≠ gb314))) (fun _ hk => hk.2) (.bool t343)) (fun _ hk => hk.2) (.slice Ao144 t344.length co144)) (fun _ hk => ⟨hk.1.1, ⟨hk.1.2.1, ⟨hk.1.2.2.1, ⟨hk.1.2.2.2.1, ⟨hk.1.2.2.2.2.1, ⟨hk.1.2.2.2.2.2.1, ⟨hk.1.2.2.2.2.2.2.1, hk.1.2.2.2.2.2.2.2⟩⟩⟩⟩⟩⟩⟩)⟩
     have n1_ : Aside0 (Kd.V (Kd.int .i64) 3 ((w142.setCell ⟨gb314, 0, none⟩ (.bool t343)).setCell ⟨gb314, 1, none⟩ (.slice Ao144 t344.length co144)) w.heap.size (fun k_ => (w.heap.size ≤ k_) ∧ k_ ≠ gb310 ∧ k_ ≠ gb311 ∧ k_ ≠ gb312 ∧ k_ ≠ gb313 ∧ k_ ≠ gb314 ∧ k_ ≠ gb315 ∧ k_ ≠ gb342) (.slice Ao100 t339.length co100) t339) := ⟨by (with_reducible repeat (first | apply Kd.V_alloc | apply Kd.V_drewN | apply Kd.V_drew)); exact Kd.V_mono (Kd.V_far (p := ⟨gb314, 1, none⟩) (Kd.V_far (p := ⟨gb314, 0, none⟩) (Kd.V_mono HO_343001.out (fun k_ hk => (⟨hk, hk.2.2.2.2.2.1⟩ : _ ∧ k_ ≠ gb314))) (fun _ hk => hk.2) (.bool t343)) (fun _ hk => hk.2) (.slice Ao144 t344.length co144)) (fun _ hk => ⟨hk.1.1, ⟨hk.1.2.1, ⟨hk.1.2.2.1, ⟨hk.1.2.2.2.1, ⟨hk.1.2.2.2.2.1, ⟨hk.1.2.2.2.2.2.1, ⟨hk.1.2.2.2.2.2.2.1, hk.1.2.2.2.2.2.2.2⟩⟩⟩⟩⟩⟩⟩)⟩
     have n2_ : Aside0 (Kd.V (Kd.int .i64) 3 ((w142.setCell ⟨gb314, 0, none⟩ (.bool t343)).setCell ⟨gb314, 1, none⟩ (.slice Ao144 t344.length co144)) w.heap.size (fun k_ => (w.heap.size ≤ k_) ∧ k_ ≠ gb310 ∧ k_ ≠ gb311 ∧ k_ ≠ gb312 ∧ k_ ≠ gb313 ∧ k_ ≠ gb314 ∧ k_ ≠ gb315 ∧ k_ ≠ gb342) (.slice Ao144 t344.length co144) t344) := ⟨by (with_reducible repeat (first | apply Kd.V_alloc | apply Kd.V_drewN | apply Kd.V_drew)); exact Kd.V_mono (Kd.V_far (p := ⟨gb314, 1, none⟩) (Kd.V_far (p := ⟨gb314, 0, none⟩) (Kd.V_mono HO346.out (fun k_ hk => (⟨hk, hk.2.2.2.2.2.1⟩ : _ ∧ k_ ≠ gb314))) (fun _ hk => hk.2) (.bool t343)) (fun _ hk => hk.2) (.slice Ao144 t344.length co144)) (fun _ hk => ⟨hk.1.1, ⟨hk.1.2.1, ⟨hk.1.2.2.1, ⟨hk.1.2.2.2.1, ⟨hk.1.2.2.2.2.1, ⟨hk.1.2.2.2.2.2.1, ⟨hk.1.2.2.2.2.2.2.1, hk.1.2.2.2.2.2.2.2⟩⟩⟩⟩⟩⟩⟩)⟩
     have n3_ : Aside0 (((w142.setCell ⟨gb314, 0, none⟩ (.bool t343)).setCell ⟨gb314, 1, none⟩ (.slice Ao144 t344.length co144)).heap[gb310]? = some (.cells #[.bool a0_0, .slice A0_1 l0_1.length c0_1] 36 (0, 0))) := ⟨bf BK310.out⟩
     have n4_ : Aside0 (((w142.setCell ⟨gb314, 0, none⟩ (.bool t343)).setCell ⟨gb314, 1, none⟩ (.slice Ao144 t344.length co144)).heap[gb311]? = some (.cells #[.bool true, .slice A1_1 l1_1.length c1_1] 36 (0, 0))) := ⟨bf BK311.out⟩
     have n5_ : Aside0 (((w142.setCell ⟨gb314, 0, none⟩ (.bool t343)).setCell ⟨gb314, 1, none⟩ (.slice Ao144 t344.length co144)).heap[gb312]? = some (.cells #[.bool false, .slice none 0 0] 36 (0, 0))) := ⟨bf BK312.out⟩
     have n6_ : Aside0 (((w142.setCell ⟨gb314, 0, none⟩ (.bool t343)).setCell ⟨gb314, 1, none⟩ (.slice Ao144 t344.length co144)).heap[gb313]? = some (.cells #[.bool false, .slice none 0 0] 36 (0, 0))) := ⟨bf BK313.out⟩
     have n7_ : Aside0 (((w142.setCell ⟨gb314, 0, none⟩ (.bool t343)).setCell ⟨gb314, 1, none⟩ (.slice Ao144 t344.length co144)).heap[gb314]? = some (.cells #[.bool t343, .slice Ao144 t344.length co144] 36 (0, 0))) := ⟨by (with_reducible repeat (first | refine blk_drewN ?_ _ | refine blk_drew ?_ | refine blk_alloc ?_ _)); refine blk_put (cs := #[.bool t343, .slice Ao141 x315001_1.length co141]) ?_ 1 _ rfl; (with_reducible repeat (first | refine blk_drewN ?_ _ | refine blk_drew ?_ | refine blk_alloc ?_ _)); refine blk_put (cs := #[.bool x315000_1, .slice Ao141 x315001_1.length co141]) ?_ 0 _ rfl; (with_reducible repeat (first | refine blk_drewN ?_ _ | refine blk_drew ?_ | refine blk_alloc ?_ _)); exact BK314.out⟩
     have n8_ : Aside0 (((w142.setCell ⟨gb314, 0, none⟩ (.bool t343)).setCell ⟨gb314, 1, none⟩ (.slice Ao144 t344.length co144)).heap[gb315]? = some (.cells #[.bool false, .slice A1_1 l1_1.length c1_1] 36 (0, 0))) := ⟨bf BK315.out⟩
     have n9_ : Aside0 (((w142.setCell ⟨gb314, 0, none⟩ (.bool t343)).setCell ⟨gb314, 1, none⟩ (.slice Ao144 t344.length co144)).heap[gb342]? = some (.cells #[.bool t338, .slice Ao100 t339.length co100] 36 (0, 0))) := ⟨bf BK342.out⟩
     have n10_ : Aside0 (Below w.heap.size w ((w142.setCell ⟨gb314, 0, none⟩ (.bool t343)).setCell ⟨gb314, 1, none⟩ (.slice Ao144 t344.length co144))) := ⟨bl⟩
     (try clear HO_315001)
     (try clear HO_343001)
     (try clear HO346)
     (try clear BK310)
     (try clear BK311)
     (try clear BK312)
     (try clear BK313)
     (try clear BK314)
     (try clear BK315)
     (try clear BK342)
     (try clear HB)
     generalize ((w142.setCell ⟨gb314, 0, none⟩ (.bool t343)).setCell ⟨gb314, 1, none⟩ (.slice Ao144 t344.length co144)) = w150 at n0_ n1_ n2_ n3_ n4_ n5_ n6_ n7_ n8_ n9_ n10_ ⊢
     have HO_315001 := n0_
     have HO_343001 := n1_
     have HO346 := n2_
     have BK310 := n3_
     have BK311 := n4_
     have BK312 := n5_
     have BK313 := n6_
     have BK314 := n7_
     have BK315 := n8_
     have BK342 := n9_
     have HB := n10_
     clear n0_ n1_ n2_ n3_ n4_ n5_ n6_ n7_ n8_ n9_ n10_
     have n0_ := Aside0.mk (Kd.V_drew HO_315001.out)
     have n1_ := Aside0.mk (Kd.V_drew HO_343001.out)
     have n2_ := Aside0.mk (Kd.V_drew HO346.out)
     have n3_ := Aside0.mk (blk_drew BK310.out)
     have n4_ := Aside0.mk (blk_drew BK311.out)
     have n5_ := Aside0.mk (blk_drew BK312.out)
     have n6_ := Aside0.mk (blk_drew BK313.out)
     have n7_ := Aside0.mk (blk_drew BK314.out)
     have n8_ := Aside0.mk (blk_drew BK315.out)
     have n9_ := Aside0.mk (blk_drew BK342.out)
     have n10_ := Aside0.mk (below_drew1 HB.out)
     clear HO_315001
     clear HO_343001
     clear HO346
     clear BK310
     clear BK311
     clear BK312
     clear BK313
     clear BK314
     clear BK315
     clear BK342
     clear HB
     have HO_315001 := n0_
     have HO_343001 := n1_
     have HO346 := n2_
     have BK310 := n3_
     have BK311 := n4_
     have BK312 := n5_
     have BK313 := n6_
     have BK314 := n7_
     have BK315 := n8_
     have BK342 := n9_
     have HB := n10_
     clear n0_ n1_ n2_ n3_ n4_ n5_ n6_ n7_ n8_ n9_ n10_
     refine start_ (n := 4) (S := fun w' => w'.cell? ⟨gb342, 0, none⟩ = some (.bool t338) ∧ w'.cell? ⟨gb342, 1, none⟩ = some (.slice Ao100 t339.length co100)) (ds := [3]) #[false,false,false,false] (by kernel_rfl) rfl rfl ⟨(blk_cell BK342.out 0).trans rfl, (blk_cell BK342.out 1).trans rfl⟩ (fun hHeld => ?_)
     generalize w150.drew = w151 at HO_315001 HO_343001 HO346 BK310 BK311 BK312 BK313 BK314 BK315 BK342 HB hHeld ⊢
     refine take_ (i := 0) (N := some 69) (v := ?_) (a' := ?_) #[true,false,false,false] rfl rfl (by kernel_rfl) (fun _ _ _ h => h) (Or.inl ⟨by rfl, ?_⟩) hHeld ?_ ?_
     rotate_left
     · rintro w' ⟨s0, s1⟩
       go_simp
       with_reducible rfl
     rotate_left; focus (simp only [Act.put, z1, z2, z3, i64_w, i32_w]; rfl)
     refine one_ (i := 1) (N := some 70) #[true,true,false,false] rfl rfl (by kernel_rfl) (by decide) (fun K hK => ?_)
     refine goes_ Try.func18 (by kernel_rfl) rfl #[.int .i64 1] (by rfl) rfl rfl (by (try simp only [List.map_toArray, List.map_cons, List.map_nil]); first | done | rfl | (simp only [List.length_drop, List.length_take]; rfl)) ?_
     with_reducible refine (maskref4_DecInt.calls kj77 1 t347 t348 _ A126.out).mono ?_
     rintro e w152 ⟨v349, rfl, ho0, hb⟩
     refine ⟨_, rfl, ?_⟩
     have n0_ := Aside0.mk (vb HO_315001.out hb)
     have n1_ := Aside0.mk (vb HO_343001.out hb)
     have n2_ := Aside0.mk (vb HO346.out hb)
     have n3_ := Aside0.mk (Kd.V_lower (Kd.V_mono (ok' := fun k_ => (w.heap.size ≤ k_) ∧ k_ ≠ gb310 ∧ k_ ≠ gb311 ∧ k_ ≠ gb312 ∧ k_ ≠ gb313 ∧ k_ ≠ gb314 ∧ k_ ≠ gb315 ∧ k_ ≠ gb342) ho0 (fun k_ hk_ => ⟨(Nat.le_trans (below_size bl) hk_), (Kd.freshB (g := gb310) (o := .cells #[.bool a0_0, .slice A0_1 l0_1.length c0_1] 36 (0, 0)) (bk BK310.out) k_ hk_), (Kd.freshB (g := gb311) (o := .cells #[.bool true, .slice A1_1 l1_1.length c1_1] 36 (0, 0)) (bk BK311.out) k_ hk_), (Kd.freshB (g := gb312) (o := .cells #[.bool false, .slice none 0 0] 36 (0, 0)) (bk BK312.out) k_ hk_), (Kd.freshB (g := gb313) (o := .cells #[.bool false, .slice none 0 0] 36 (0, 0)) (bk BK313.out) k_ hk_), (Kd.freshB (g := gb314) (o := .cells #[.bool t343, .slice Ao144 t344.length co144] 36 (0, 0)) (bk BK314.out) k_ hk_), (Kd.freshB (g := gb315) (o := .cells #[.bool false, .slice A1_1 l1_1.length c1_1] 36 (0, 0)) (bk BK315.out) k_ hk_), (Kd.freshB (g := gb342) (o := .cells #[.bool t338, .slice Ao100 t339.length co100] 36 (0, 0)) (bk BK342.out) k_ hk_)⟩)) (below_size bl))
     have n4_ := Aside0.mk (bb BK310.out hb)
     have n5_ := Aside0.mk (bb BK311.out hb)
     have n6_ := Aside0.mk (bb BK312.out hb)
     have n7_ := Aside0.mk (bb BK313.out hb)
     have n8_ := Aside0.mk (bb BK314.out hb)
     have n9_ := Aside0.mk (bb BK315.out hb)
     have n10_ := Aside0.mk (bb BK342.out hb)
     have n11_ := Aside0.mk (below_step bl hb)
     clear HO_315001
     clear HO_343001
     clear HO346
     clear BK310
     clear BK311
     clear BK312
     clear BK313
     clear BK314
     clear BK315
     clear BK342
     clear HB
     have HO_315001 := n0_
     have HO_343001 := n1_
     have HO346 := n2_
     have HO350 := n3_
     have BK310 := n4_
     have BK311 := n5_
     have BK312 := n6_
     have BK313 := n7_
     have BK314 := n8_
     have BK315 := n9_
     have BK342 := n10_
     have HB := n11_
     clear n0_ n1_ n2_ n3_ n4_ n5_ n6_ n7_ n8_ n9_ n10_ n11_
     (try clear hb)
     (try clear hb2)
     (try clear hk)
     (try clear hi)
     (try clear ho0)
     obtain ⟨Ao153, co153, eo153⟩ := Kd.V_slice HO350.out
     (first | subst eo153 | (injection eo153 with f1_ f2_ f3_; have f4_ := f1_.symm; have f5_ := f3_.symm; clear f1_ f2_ f3_; subst f4_; subst f5_))
     refine hK.out _ _ ⟨(blk_cell BK342.out 0).trans rfl, (blk_cell BK342.out 1).trans rfl⟩ (fun hHeld => ?_)
     clear hK K
     refine norm_ (a' := ?_) ?_ ?_
     rotate_left; focus (show Act.put _ (some 70) _ = _; simp only [Act.put, z1, z2, z3, i64_w, i32_w]; rfl)
     refine one_ (i := 2) (N := some 71) #[true,true,true,false] rfl rfl (by kernel_rfl) (by decide) (fun K hK => ?_)
     refine goes_ Try.func46 (by kernel_rfl) rfl #[.agg #[.bool t338, .slice Ao100 t339.length co100], .agg #[.bool t347, .slice Ao153 t348.length co153]] (by rfl) rfl rfl (by (try simp only [List.map_toArray, List.map_cons, List.map_nil]); first | done | rfl | (simp only [List.length_drop, List.length_take]; rfl)) ?_
     with_reducible refine (maskref4_Dec_Plus.calls kj77 t338 _ _ t339 t347 _ _ t348 t351 t352 _ ?side1 ?side2 ?side3 ?side4 A127.out).mono ?_
     (case side1 => exact kc ((Kd.V_reads' HO_343001.out).2.2))
     (case side2 => exact (Kd.V_reads' HO_343001.out).2.1)
     (case side3 => exact kc ((Kd.V_reads' HO350.out).2.2))
     (case side4 => exact (Kd.V_reads' HO350.out).2.1)
     rintro e w154 ⟨v353, rfl, ho0, hb⟩
     refine ⟨_, rfl, ?_⟩
     have n0_ := Aside0.mk (vb HO_315001.out hb)
     have n1_ := Aside0.mk (vb HO_343001.out hb)
     have n2_ := Aside0.mk (vb HO346.out hb)
     have n3_ := Aside0.mk (vb HO350.out hb)
     have n4_ := Aside0.mk (Kd.V_lower (Kd.V_mono (ok' := fun k_ => (w.heap.size ≤ k_) ∧ k_ ≠ gb310 ∧ k_ ≠ gb311 ∧ k_ ≠ gb312 ∧ k_ ≠ gb313 ∧ k_ ≠ gb314 ∧ k_ ≠ gb315 ∧ k_ ≠ gb342) ho0 (fun k_ hk_ => ⟨(Nat.le_trans (below_size bl) hk_), (Kd.freshB (g := gb310) (o := .cells #[.bool a0_0, .slice A0_1 l0_1.length c0_1] 36 (0, 0)) (bk BK310.out) k_ hk_), (Kd.freshB (g := gb311) (o := .cells #[.bool true, .slice A1_1 l1_1.length c1_1] 36 (0, 0)) (bk BK311.out) k_ hk_), (Kd.freshB (g := gb312) (o := .cells #[.bool false, .slice none 0 0] 36 (0, 0)) (bk BK312.out) k_ hk_), (Kd.freshB (g := gb313) (o := .cells #[.bool false, .slice none 0 0] 36 (0, 0)) (bk BK313.out) k_ hk_), (Kd.freshB (g := gb314) (o := .cells #[.bool t343, .slice Ao144 t344.length co144] 36 (0, 0)) (bk BK314.out) k_ hk_), (Kd.freshB (g := gb315) (o := .cells #[.bool false, .slice A1_1 l1_1.length c1_1] 36 (0, 0)) (bk BK315.out) k_ hk_), (Kd.freshB (g := gb342) (o := .cells #[.bool t338, .slice Ao100 t339.length co100] 36 (0, 0)) (bk BK342.out) k_ hk_)⟩)) (below_size bl))
     have n5_ := Aside0.mk (bb BK310.out hb)
     have n6_ := Aside0.mk (bb BK311.out hb)
     have n7_ := Aside0.mk (bb BK312.out hb)
     have n8_ := Aside0.mk (bb BK313.out hb)
     have n9_ := Aside0.mk (bb BK314.out hb)
     have n10_ := Aside0.mk (bb BK315.out hb)
     have n11_ := Aside0.mk (bb BK342.out hb)
     have n12_ := Aside0.mk (below_step bl hb)
     clear HO_315001
     clear HO_343001
     clear HO346
     clear HO350
     clear BK310
     clear BK311
     clear BK312
     clear BK313
     clear BK314
     clear BK315
     clear BK342
     clear HB
     have HO_315001 := n0_
     have HO_343001 := n1_
     have HO346 := n2_
     have HO350 := n3_
     have HO354 := n4_
     have BK310 := n5_
     have BK311 := n6_
     have BK312 := n7_
     have BK313 := n8_
     have BK314 := n9_
     have BK315 := n10_
     have BK342 := n11_
     have HB := n12_
     clear n0_ n1_ n2_ n3_ n4_ n5_ n6_ n7_ n8_ n9_ n10_ n11_ n12_
     (try clear hb)
     (try clear hb2)
     (try clear hk)
     (try clear hi)
     (try clear ho0)
     obtain ⟨Ao156, co156, eo156⟩ := Kd.V_slice HO354.out
     (first | subst eo156 | (injection eo156 with f1_ f2_ f3_; have f4_ := f1_.symm; have f5_ := f3_.symm; clear f1_ f2_ f3_; subst f4_; subst f5_))
     refine hK.out _ _ ⟨(blk_cell BK342.out 0).trans rfl, (blk_cell BK342.out 1).trans rfl⟩ (fun hHeld => ?_)
     clear hK K
     refine norm_ (a' := ?_) ?_ ?_
     rotate_left; focus (show Act.put _ (some 71) _ = _; simp only [Act.put, z1, z2, z3, i64_w, i32_w]; rfl)
     refine last_ (i := 3) (N := none) #[true,true,true,true] rfl rfl (by kernel_rfl) (by decide) (fun K hK => ?_)
     have hfs155 := blk_frozen BK342.out 0
     have hfs157 := blk_frozen BK342.out 1
     refine skip_ (w1 := ?_) (by rfl) rfl ?_ ?_
     rotate_left; focus (go_simp; rfl)
     refine hK.out _ _ ?_
     clear hK K
     refine done_ (by kernel_rfl) ?_
     try go_wp2
     have n0_ : Aside0 (Kd.V (Kd.int .i64) 3 ((w154.setCell ⟨gb342, 0, none⟩ (.bool t351)).setCell ⟨gb342, 1, none⟩ (.slice Ao156 t352.length co156)) w.heap.size (fun k_ => (w.heap.size ≤ k_) ∧ k_ ≠ gb310 ∧ k_ ≠ gb311 ∧ k_ ≠ gb312 ∧ k_ ≠ gb313 ∧ k_ ≠ gb314 ∧ k_ ≠ gb315 ∧ k_ ≠ gb342) (.slice Ao141 x315001_1.length co141) x315001_1) := ⟨by (with_reducible repeat (first | apply Kd.V_alloc | apply Kd.V_drewN | apply Kd.V_drew)); exact Kd.V_mono (Kd.V_far (p := ⟨gb342, 1, none⟩) (Kd.V_far (p := ⟨gb342, 0, none⟩) (Kd.V_mono HO_315001.out (fun k_ hk => (⟨hk, hk.2.2.2.2.2.2.2⟩ : _ ∧ k_ ≠ gb342))) (fun _ hk => hk.2) (.bool t351)) (fun _ hk => hk.2) (.slice Ao156 t352.length co156)) (fun _ hk => ⟨hk.1.1, ⟨hk.1.2.1, ⟨hk.1.2.2.1, ⟨hk.1.2.2.2.1, ⟨hk.1.2.2.2.2.1, ⟨hk.1.2.2.2.2.2.1, ⟨hk.1.2.2.2.2.2.2.1, hk.1.2.2.2.2.2.2.2⟩⟩⟩⟩⟩⟩⟩)⟩
     have n1_ : Aside0 (Kd.V (Kd.int .i64) 3 ((w154.setCell ⟨gb342, 0, none⟩ (.bool t351)).setCell ⟨gb342, 1, none⟩ (.slice Ao156 t352.length co156)) w.heap.size (fun k_ => (w.heap.size ≤ k_) ∧ k_ ≠ gb310 ∧ k_ ≠ gb311 ∧ k_ ≠ gb312 ∧ k_ ≠ gb313 ∧ k_ ≠ gb314 ∧ k_ ≠ gb315 ∧ k_ ≠ gb342) (.slice Ao100 t339.length co100) t339) := ⟨by (with_reducible repeat (first | apply Kd.V_alloc | apply Kd.V_drewN | apply Kd.V_drew)); exact Kd.V_mono (Kd.V_far (p := ⟨gb342, 1, none⟩) (Kd.V_far (p := ⟨gb342, 0, none⟩) (Kd.V_mono HO_343001.out (fun k_ hk => (⟨hk, hk.2.2.2.2.2.2.2⟩ : _ ∧ k_ ≠ gb342))) (fun _ hk => hk.2) (.bool t351)) (fun _ hk => hk.2) (.slice Ao156 t352.length co156)) (fun _ hk => ⟨hk.1.1, ⟨hk.1.2.1, ⟨hk.1.2.2.1, ⟨hk.1.2.2.2.1, ⟨hk.1.2.2.2.2.1, ⟨hk.1.2.2.2.2.2.1, ⟨hk.1.2.2.2.2.2.2.1, hk.1.2.2.2.2.2.2.2⟩⟩⟩⟩⟩⟩⟩)⟩
     have n2_ : Aside0 (Kd.V (Kd.int .i64) 3 ((w154.setCell ⟨gb342, 0, none⟩ (.bool t351)).setCell ⟨gb342, 1, none⟩ (.slice Ao156 t352.length co156)) w.heap.size (fun k_ => (w.heap.size ≤ k_) ∧ k_ ≠ gb310 ∧ k_ ≠ gb311 ∧ k_ ≠ gb312 ∧ k_ ≠ gb313 ∧ k_ ≠ gb314 ∧ k_ ≠ gb315 ∧ k_ ≠ gb342) (.slice Ao144 t344.length co144) t344) := ⟨by (with_reducible repeat (first | apply Kd.V_alloc | apply Kd.V_drewN | apply Kd.V_drew)); exact Kd.V_mono (Kd.V_far (p := ⟨gb342, 1, none⟩) (Kd.V_far (p := ⟨gb342, 0, none⟩) (Kd.V_mono HO346.out (fun k_ hk => (⟨hk, hk.2.2.2.2.2.2.2⟩ : _ ∧ k_ ≠ gb342))) (fun _ hk => hk.2) (.bool t351)) (fun _ hk => hk.2) (.slice Ao156 t352.length co156)) (fun _ hk => ⟨hk.1.1, ⟨hk.1.2.1, ⟨hk.1.2.2.1, ⟨hk.1.2.2.2.1, ⟨hk.1.2.2.2.2.1, ⟨hk.1.2.2.2.2.2.1, ⟨hk.1.2.2.2.2.2.2.1, hk.1.2.2.2.2.2.2.2⟩⟩⟩⟩⟩⟩⟩)⟩
     have n3_ : Aside0 (Kd.V (Kd.int .i64) 3 ((w154.setCell ⟨gb342, 0, none⟩ (.bool t351)).setCell ⟨gb342, 1, none⟩ (.slice Ao156 t352.length co156)) w.heap.size (fun k_ => (w.heap.size ≤ k_) ∧ k_ ≠ gb310 ∧ k_ ≠ gb311 ∧ k_ ≠ gb312 ∧ k_ ≠ gb313 ∧ k_ ≠ gb314 ∧ k_ ≠ gb315 ∧ k_ ≠ gb342) (.slice Ao153 t348.length co153) t348) := ⟨by (with_reducible repeat (first | apply Kd.V_alloc | apply Kd.V_drewN | apply Kd.V_drew)); exact Kd.V_mono (Kd.V_far (p := ⟨gb342, 1, none⟩) (Kd.V_far (p := ⟨gb342, 0, none⟩) (Kd.V_mono HO350.out (fun k_ hk => (⟨hk, hk.2.2.2.2.2.2.2⟩ : _ ∧ k_ ≠ gb342))) (fun _ hk => hk.2) (.bool t351)) (fun _ hk => hk.2) (.slice Ao156 t352.length co156)) (fun _ hk => ⟨hk.1.1, ⟨hk.1.2.1, ⟨hk.1.2.2.1, ⟨hk.1.2.2.2.1, ⟨hk.1.2.2.2.2.1, ⟨hk.1.2.2.2.2.2.1, ⟨hk.1.2.2.2.2.2.2.1, hk.1.2.2.2.2.2.2.2⟩⟩⟩⟩⟩⟩⟩)⟩
     have n4_ : Aside0 (Kd.V (Kd.int .i64) 3 ((w154.setCell ⟨gb342, 0, none⟩ (.bool t351)).setCell ⟨gb342, 1, none⟩ (.slice Ao156 t352.length co156)) w.heap.size (fun k_ => (w.heap.size ≤ k_) ∧ k_ ≠ gb310 ∧ k_ ≠ gb311 ∧ k_ ≠ gb312 ∧ k_ ≠ gb313 ∧ k_ ≠ gb314 ∧ k_ ≠ gb315 ∧ k_ ≠ gb342) (.slice Ao156 t352.length co156) t352) := ⟨by (with_reducible repeat (first | apply Kd.V_alloc | apply Kd.V_drewN | apply Kd.V_drew)); exact Kd.V_mono (Kd.V_far (p := ⟨gb342, 1, none⟩) (Kd.V_far (p := ⟨gb342, 0, none⟩) (Kd.V_mono HO354.out (fun k_ hk => (⟨hk, hk.2.2.2.2.2.2.2⟩ : _ ∧ k_ ≠ gb342))) (fun _ hk => hk.2) (.bool t351)) (fun _ hk => hk.2) (.slice Ao156 t352.length co156)) (fun _ hk => ⟨hk.1.1, ⟨hk.1.2.1, ⟨hk.1.2.2.1, ⟨hk.1.2.2.2.1, ⟨hk.1.2.2.2.2.1, ⟨hk.1.2.2.2.2.2.1, ⟨hk.1.2.2.2.2.2.2.1, hk.1.2.2.2.2.2.2.2⟩⟩⟩⟩⟩⟩⟩)⟩
     have n5_ : Aside0 (((w154.setCell ⟨gb342, 0, none⟩ (.bool t351)).setCell ⟨gb342, 1, none⟩ (.slice Ao156 t352.length co156)).heap[gb310]? = some (.cells #[.bool a0_0, .slice A0_1 l0_1.length c0_1] 36 (0, 0))) := ⟨bf BK310.out⟩
     have n6_ : Aside0 (((w154.setCell ⟨gb342, 0, none⟩ (.bool t351)).setCell ⟨gb342, 1, none⟩ (.slice Ao156 t352.length co156)).heap[gb311]? = some (.cells #[.bool true, .slice A1_1 l1_1.length c1_1] 36 (0, 0))) := ⟨bf BK311.out⟩
     have n7_ : Aside0 (((w154.setCell ⟨gb342, 0, none⟩ (.bool t351)).setCell ⟨gb342, 1, none⟩ (.slice Ao156 t352.length co156)).heap[gb312]? = some (.cells #[.bool false, .slice none 0 0] 36 (0, 0))) := ⟨bf BK312.out⟩
     have n8_ : Aside0 (((w154.setCell ⟨gb342, 0, none⟩ (.bool t351)).setCell ⟨gb342, 1, none⟩ (.slice Ao156 t352.length co156)).heap[gb313]? = some (.cells #[.bool false, .slice none 0 0] 36 (0, 0))) := ⟨bf BK313.out⟩
     have n9_ : Aside0 (((w154.setCell ⟨gb342, 0, none⟩ (.bool t351)).setCell ⟨gb342, 1, none⟩ (.slice Ao156 t352.length co156)).heap[gb314]? = some (.cells #[.bool t343, .slice Ao144 t344.length co144] 36 (0, 0))) := ⟨bf BK314.out⟩
     have n10_ : Aside0 (((w154.setCell ⟨gb342, 0, none⟩ (.bool t351)).setCell ⟨gb342, 1, none⟩ (.slice Ao156 t352.length co156)).heap[gb315]? = some (.cells #[.bool false, .slice A1_1 l1_1.length c1_1] 36 (0, 0))) := ⟨bf BK315.out⟩
     have n11_ : Aside0 (((w154.setCell ⟨gb342, 0, none⟩ (.bool t351)).setCell ⟨gb342, 1, none⟩ (.slice Ao156 t352.length co156)).heap[gb342]? = some (.cells #[.bool t351, .slice Ao156 t352.length co156] 36 (0, 0))) := ⟨by (with_reducible repeat (first | refine blk_drewN ?_ _ | refine blk_drew ?_ | refine blk_alloc ?_ _)); refine blk_put (cs := #[.bool t351, .slice Ao100 t339.length co100]) ?_ 1 _ rfl; (with_reducible repeat (first | refine blk_drewN ?_ _ | refine blk_drew ?_ | refine blk_alloc ?_ _)); refine blk_put (cs := #[.bool t338, .slice Ao100 t339.length co100]) ?_ 0 _ rfl; (with_reducible repeat (first | refine blk_drewN ?_ _ | refine blk_drew ?_ | refine blk_alloc ?_ _)); exact BK342.out⟩
     have n12_ : Aside0 (Below w.heap.size w ((w154.setCell ⟨gb342, 0, none⟩ (.bool t351)).setCell ⟨gb342, 1, none⟩ (.slice Ao156 t352.length co156))) := ⟨bl⟩
     (try clear HO_315001)
     (try clear HO_343001)
     (try clear HO346)
     (try clear HO350)
     (try clear HO354)
     (try clear BK310)
     (try clear BK311)
     (try clear BK312)
     (try clear BK313)
     (try clear BK314)
     (try clear BK315)
     (try clear BK342)
     (try clear HB)
     generalize ((w154.setCell ⟨gb342, 0, none⟩ (.bool t351)).setCell ⟨gb342, 1, none⟩ (.slice Ao156 t352.length co156)) = w158 at n0_ n1_ n2_ n3_ n4_ n5_ n6_ n7_ n8_ n9_ n10_ n11_ n12_ ⊢
     have HO_315001 := n0_
     have HO_343001 := n1_
     have HO346 := n2_
     have HO350 := n3_
     have HO354 := n4_
     have BK310 := n5_
     have BK311 := n6_
     have BK312 := n7_
     have BK313 := n8_
     have BK314 := n9_
     have BK315 := n10_
     have BK342 := n11_
     have HB := n12_
     clear n0_ n1_ n2_ n3_ n4_ n5_ n6_ n7_ n8_ n9_ n10_ n11_ n12_
     have n0_ := Aside0.mk (Kd.V_drew HO_315001.out)
     have n1_ := Aside0.mk (Kd.V_drew HO_343001.out)
     have n2_ := Aside0.mk (Kd.V_drew HO346.out)
     have n3_ := Aside0.mk (Kd.V_drew HO350.out)
     have n4_ := Aside0.mk (Kd.V_drew HO354.out)
     have n5_ := Aside0.mk (blk_drew BK310.out)
     have n6_ := Aside0.mk (blk_drew BK311.out)
     have n7_ := Aside0.mk (blk_drew BK312.out)
     have n8_ := Aside0.mk (blk_drew BK313.out)
     have n9_ := Aside0.mk (blk_drew BK314.out)
     have n10_ := Aside0.mk (blk_drew BK315.out)
     have n11_ := Aside0.mk (blk_drew BK342.out)
     have n12_ := Aside0.mk (below_drew1 HB.out)
     clear HO_315001
     clear HO_343001
     clear HO346
     clear HO350
     clear HO354
     clear BK310
     clear BK311
     clear BK312
     clear BK313
     clear BK314
     clear BK315
     clear BK342
     clear HB
     have HO_315001 := n0_
     have HO_343001 := n1_
     have HO346 := n2_
     have HO350 := n3_
     have HO354 := n4_
     have BK310 := n5_
     have BK311 := n6_
     have BK312 := n7_
     have BK313 := n8_
     have BK314 := n9_
     have BK315 := n10_
     have BK342 := n11_
     have HB := n12_
     clear n0_ n1_ n2_ n3_ n4_ n5_ n6_ n7_ n8_ n9_ n10_ n11_ n12_
     refine start_ (n := 4) (S := fun w' => w'.cell? ⟨gb342, 0, none⟩ = some (.bool t351) ∧ w'.cell? ⟨gb342, 1, none⟩ = some (.slice Ao156 t352.length co156) ∧ w'.cell? ⟨gb314, 0, none⟩ = some (.bool t343) ∧ w'.cell? ⟨gb314, 1, none⟩ = some (.slice Ao144 t344.length co144)) (ds := []) #[false,false,false,false] (by kernel_rfl) rfl rfl ⟨(blk_cell BK342.out 0).trans rfl, (blk_cell BK342.out 1).trans rfl, (blk_cell BK314.out 0).trans rfl, (blk_cell BK314.out 1).trans rfl⟩ (fun hHeld => ?_)
     generalize w158.drew = w159 at HO_315001 HO_343001 HO346 HO350 HO354 BK310 BK311 BK312 BK313 BK314 BK315 BK342 HB hHeld ⊢
     refine take_ (i := 0) (N := some 75) (v := ?_) (a' := ?_) #[true,false,false,false] rfl rfl (by kernel_rfl) (fun _ _ _ h => h) (Or.inl ⟨by rfl, ?_⟩) hHeld ?_ ?_
     rotate_left
     · rintro w' ⟨s0, s1, s2, s3⟩
       go_simp
       with_reducible rfl
     rotate_left; focus (simp only [Act.put, z1, z2, z3, i64_w, i32_w]; rfl)
     refine take_ (i := 1) (N := some 76) (v := ?_) (a' := ?_) #[true,true,false,false] rfl rfl (by kernel_rfl) (fun _ _ _ h => h) (Or.inl ⟨by rfl, ?_⟩) hHeld ?_ ?_
     rotate_left
     · rintro w' ⟨s0, s1, s2, s3⟩
       go_simp
       with_reducible rfl
     rotate_left; focus (simp only [Act.put, z1, z2, z3, i64_w, i32_w]; rfl)
     refine one_ (i := 2) (N := none) #[true,true,true,false] rfl rfl (by kernel_rfl) (by decide) (fun K hK => ?_)
     have hs160 : w159.cell? ⟨gb312, 0, none⟩ = some (.bool false) := (blk_cell BK312.out 0).trans rfl
     have hfs160 := blk_frozen BK312.out 0
     have hs161 : w159.cell? ⟨gb312, 1, none⟩ = some (.slice none 0 0) := (blk_cell BK312.out 1).trans rfl
     have hfs161 := blk_frozen BK312.out 1
     refine skip_ (w1 := ?_) (by rfl) rfl ?_ ?_
     rotate_left; focus (go_simp; rfl)
     refine hK.out _ _ ⟨((cell_far (p := ⟨gb312, _, none⟩) NB342_312.out _).trans (((cell_far (p := ⟨gb312, _, none⟩) NB342_312.out _).trans (hHeld.1)))), ((cell_far (p := ⟨gb312, _, none⟩) NB342_312.out _).trans (((cell_far (p := ⟨gb312, _, none⟩) NB342_312.out _).trans (hHeld.2.1)))), ((cell_far (p := ⟨gb312, _, none⟩) NB314_312.out _).trans (((cell_far (p := ⟨gb312, _, none⟩) NB314_312.out _).trans (hHeld.2.2.1)))), ((cell_far (p := ⟨gb312, _, none⟩) NB314_312.out _).trans (((cell_far (p := ⟨gb312, _, none⟩) NB314_312.out _).trans (hHeld.2.2.2))))⟩ (fun hHeld => ?_)
     clear hK K
     refine one_ (i := 3) (N := none) #[true,true,true,true] rfl rfl (by kernel_rfl) (by decide) (fun K hK => ?_)
     have hs162 : w159.cell? ⟨gb313, 0, none⟩ = some (.bool false) := (blk_cell BK313.out 0).trans rfl
     have hfs162 := blk_frozen BK313.out 0
     have hs163 : w159.cell? ⟨gb313, 1, none⟩ = some (.slice none 0 0) := (blk_cell BK313.out 1).trans rfl
     have hfs163 := blk_frozen BK313.out 1
     have hms163_2 := NB313_312.out
     have hms163_4 := NB313_314.out
     have hms163_5 := NB313_315.out
     have hms163_6 := NB313_342.out
     refine skip_ (w1 := ?_) (by rfl) rfl ?_ ?_
     rotate_left; focus (go_simp; rfl)
     refine hK.out _ _ ⟨((cell_far (p := ⟨gb313, _, none⟩) NB342_313.out _).trans (((cell_far (p := ⟨gb313, _, none⟩) NB342_313.out _).trans (hHeld.1)))), ((cell_far (p := ⟨gb313, _, none⟩) NB342_313.out _).trans (((cell_far (p := ⟨gb313, _, none⟩) NB342_313.out _).trans (hHeld.2.1)))), ((cell_far (p := ⟨gb313, _, none⟩) NB314_313.out _).trans (((cell_far (p := ⟨gb313, _, none⟩) NB314_313.out _).trans (hHeld.2.2.1)))), ((cell_far (p := ⟨gb313, _, none⟩) NB314_313.out _).trans (((cell_far (p := ⟨gb313, _, none⟩) NB314_313.out _).trans (hHeld.2.2.2))))⟩ (fun hHeld => ?_)
     clear hK K
     refine done_ (by kernel_rfl) ?_
     try go_wp2
     refine bodyPost_ret (results_cc rfl _ _ gb312 gb313 36 36 #[.bool t351, .slice Ao156 t352.length co156] #[.bool t343, .slice Ao144 t344.length co144] (0, 0) (0, 0) _ _ rfl (by (with_reducible repeat (first | refine blk_drewN ?_ _ | refine blk_drew ?_ | refine blk_alloc ?_ _)); refine blk_far ?_ NB312_313.out _; (with_reducible repeat (first | refine blk_drewN ?_ _ | refine blk_drew ?_ | refine blk_alloc ?_ _)); refine blk_far ?_ NB312_313.out _; (with_reducible repeat (first | refine blk_drewN ?_ _ | refine blk_drew ?_ | refine blk_alloc ?_ _)); refine blk_put (cs := #[.bool t351, .slice none 0 0]) ?_ 1 _ rfl; (with_reducible repeat (first | refine blk_drewN ?_ _ | refine blk_drew ?_ | refine blk_alloc ?_ _)); refine blk_put (cs := #[.bool false, .slice none 0 0]) ?_ 0 _ rfl; (with_reducible repeat (first | refine blk_drewN ?_ _ | refine blk_drew ?_ | refine blk_alloc ?_ _)); exact BK312.out) Try.underlying36 rfl (by kernel_rfl) rfl (by (with_reducible repeat (first | refine blk_drewN ?_ _ | refine blk_drew ?_ | refine blk_alloc ?_ _)); refine blk_put (cs := #[.bool t343, .slice none 0 0]) ?_ 1 _ rfl; (with_reducible repeat (first | refine blk_drewN ?_ _ | refine blk_drew ?_ | refine blk_alloc ?_ _)); refine blk_put (cs := #[.bool false, .slice none 0 0]) ?_ 0 _ rfl; (with_reducible repeat (first | refine blk_drewN ?_ _ | refine blk_drew ?_ | refine blk_alloc ?_ _)); refine blk_far ?_ NB313_312.out _; (with_reducible repeat (first | refine blk_drewN ?_ _ | refine blk_drew ?_ | refine blk_alloc ?_ _)); refine blk_far ?_ NB313_312.out _; (with_reducible repeat (first | refine blk_drewN ?_ _ | refine blk_drew ?_ | refine blk_alloc ?_ _)); exact BK313.out) Try.underlying36 rfl (by kernel_rfl)) rfl ?_
     exact ⟨_, _, by first | rfl | (simp [errW_none, errW_some] <;> rfl) | (simp [*, errW_none, errW_some] <;> rfl), by (with_reducible repeat (first | apply Kd.V_alloc | apply Kd.V_drewN | apply Kd.V_drew)); exact Kd.V_mono (Kd.V_far (p := ⟨gb313, 1, none⟩) (Kd.V_far (p := ⟨gb313, 0, none⟩) (Kd.V_far (p := ⟨gb312, 1, none⟩) (Kd.V_far (p := ⟨gb312, 0, none⟩) (Kd.V_mono (Kd.V_mono HO354.out (fun k_ hk => (⟨hk, hk.2.2.2.1⟩ : _ ∧ k_ ≠ gb312))) (fun k_ hk => (⟨hk, hk.1.2.2.2.2.1⟩ : _ ∧ k_ ≠ gb313))) (fun _ hk => hk.1.2) (.bool t351)) (fun _ hk => hk.1.2) (.slice Ao156 t352.length co156)) (fun _ hk => hk.2) (.bool t343)) (fun _ hk => hk.2) (.slice Ao144 t344.length co144)) (fun _ hk => hk.1.1.1), by (with_reducible repeat (first | apply Kd.V_alloc | apply Kd.V_drewN | apply Kd.V_drew)); exact Kd.V_mono (Kd.V_far (p := ⟨gb313, 1, none⟩) (Kd.V_far (p := ⟨gb313, 0, none⟩) (Kd.V_far (p := ⟨gb312, 1, none⟩) (Kd.V_far (p := ⟨gb312, 0, none⟩) (Kd.V_mono (Kd.V_mono HO346.out (fun k_ hk => (⟨hk, hk.2.2.2.1⟩ : _ ∧ k_ ≠ gb312))) (fun k_ hk => (⟨hk, hk.1.2.2.2.2.1⟩ : _ ∧ k_ ≠ gb313))) (fun _ hk => hk.1.2) (.bool t351)) (fun _ hk => hk.1.2) (.slice Ao156 t352.length co156)) (fun _ hk => hk.2) (.bool t343)) (fun _ hk => hk.2) (.slice Ao144 t344.length co144)) (fun _ hk => hk.1.1.1), bl⟩
   replace c125 := Bool.eq_false_iff.mpr c125
   subst c125
   have H1 : ((maskref4_DecInt.f kj77 1).bind fun bt355 => ((maskref4_Dec_Minus.f kj77 t338 t339 bt355.1 bt355.2).bind fun bt359 => (some (bt359.1, bt359.2, t343, t344)))) = some (r1, r2, r3, r4) := by rw [if_neg (show ¬ (false = true) by decide)] at H; exact H
   clear H
   have H := H1
   clear H1
   replace H := Option.bind_eq_some_iff.mp H
   obtain ⟨⟨t355, t356⟩, A1640, H⟩ := H
   replace H : ((maskref4_Dec_Minus.f kj77 t338 t339 t355 t356).bind fun bt359 => (some (bt359.1, bt359.2, t343, t344))) = some (r1, r2, r3, r4) := H
   have A164 := Aside0.mk A1640
   clear A1640
   replace H := Option.bind_eq_some_iff.mp H
   obtain ⟨⟨t359, t360⟩, A1650, H⟩ := H
   replace H : (some (t359, t360, t343, t344)) = some (r1, r2, r3, r4) := H
   have A165 := Aside0.mk A1650
   clear A1650
   simp only [Option.some.injEq, Prod.mk.injEq] at H
   obtain ⟨rfl, rfl, rfl, rfl⟩ := H
   obtain ⟨hcz172_0, hcz172_1, hfz172_0, hfz172_1⟩ := bz2 BK315.out
   have hnc174 := NB311_314.out
   have hnb175 := NB314_312.out
   have hnc175 := NB312_314.out
   have hnb176 := NB314_313.out
   have hnc176 := NB313_314.out
   have hnb177 := NB314_342.out
   have hnc177 := NB342_314.out
   obtain ⟨hcz178_0, hcz178_1, hfz178_0, hfz178_1⟩ := bz2 BK314.out
   obtain ⟨Ao179, co179, eo179⟩ := Kd.V_slice HO_315001.out
   subst eo179
   try go_wp2_with ((with_reducible refine gate_callee (f := 47) rfl ?_); refine goesL_ (some 66) rfl rfl Try.func47 (by kernel_rfl) rfl #[.agg #[.bool false, .slice A1_1 l1_1.length c1_1], .agg #[.bool x315000_1, .slice Ao179 x315001_1.length co179]] rfl (by (try simp only [List.map_toArray, List.map_cons, List.map_nil]); first | done | rfl | (simp only [List.length_drop, List.length_take]; rfl)) ?_; (with_reducible refine (maskref4_Dec_Minus.calls kj77 false _ _ l1_1 x315000_1 _ _ x315001_1 t343 t344 _ ?side1 ?side2 ?side3 ?side4 A124.out).mono ?_); (case side1 => exact kc (Kd.C_below HR1_1.out HB.out)); (case side2 => exact HC1_1.out); (case side3 => exact kc ((Kd.V_reads' HO_315001.out).2.2)); (case side4 => exact (Kd.V_reads' HO_315001.out).2.1); rintro e w180 ⟨v345, rfl, ho0, hb⟩; refine ⟨_, rfl, ?_⟩; replace HO_315001 := Aside0.mk (vb HO_315001.out hb); replace HO_343001 := Aside0.mk (vb HO_343001.out hb); have HO346 := Aside0.mk (Kd.V_lower (Kd.V_mono (ok' := fun k_ => (w.heap.size ≤ k_) ∧ k_ ≠ gb310 ∧ k_ ≠ gb311 ∧ k_ ≠ gb312 ∧ k_ ≠ gb313 ∧ k_ ≠ gb314 ∧ k_ ≠ gb315 ∧ k_ ≠ gb342) ho0 (fun k_ hk_ => ⟨(Nat.le_trans (below_size bl) hk_), (Kd.freshB (g := gb310) (o := .cells #[.bool a0_0, .slice A0_1 l0_1.length c0_1] 36 (0, 0)) (bk BK310.out) k_ hk_), (Kd.freshB (g := gb311) (o := .cells #[.bool false, .slice A1_1 l1_1.length c1_1] 36 (0, 0)) (bk BK311.out) k_ hk_), (Kd.freshB (g := gb312) (o := .cells #[.bool false, .slice none 0 0] 36 (0, 0)) (bk BK312.out) k_ hk_), (Kd.freshB (g := gb313) (o := .cells #[.bool false, .slice none 0 0] 36 (0, 0)) (bk BK313.out) k_ hk_), (Kd.freshB (g := gb314) (o := .cells #[.bool x315000_1, .slice Ao179 x315001_1.length co179] 36 (0, 0)) (bk BK314.out) k_ hk_), (Kd.freshB (g := gb315) (o := .cells #[.bool false, .slice A1_1 l1_1.length c1_1] 36 (0, 0)) (bk BK315.out) k_ hk_), (Kd.freshB (g := gb342) (o := .cells #[.bool t338, .slice Ao100 t339.length co100] 36 (0, 0)) (bk BK342.out) k_ hk_)⟩)) (below_size bl)); replace BK310 := Aside0.mk (bb BK310.out hb); replace BK311 := Aside0.mk (bb BK311.out hb); replace BK312 := Aside0.mk (bb BK312.out hb); replace BK313 := Aside0.mk (bb BK313.out hb); replace BK314 := Aside0.mk (bb BK314.out hb); replace BK315 := Aside0.mk (bb BK315.out hb); replace BK342 := Aside0.mk (bb BK342.out hb); replace HB := Aside0.mk (below_step bl hb); (try clear hb); (try clear ho0); obtain ⟨hcz181_0, hcz181_1, hfz181_0, hfz181_1⟩ := bz2 BK314.out; obtain ⟨Ao182, co182, eo182⟩ := Kd.V_slice HO346.out; subst eo182; have hnb183 := NB311_310.out; have hnc183 := NB310_311.out; have hnb184 := NB311_312.out; have hnc184 := NB312_311.out; have hnb185 := NB311_313.out; have hnc185 := NB313_311.out; have hnb186 := NB311_342.out; have hnc186 := NB342_311.out; obtain ⟨hcz187_0, hcz187_1, hfz187_0, hfz187_1⟩ := bz2 BK311.out)
   have n0_ : Aside0 (Kd.V (Kd.int .i64) 3 ((w180.setCell ⟨gb314, 0, none⟩ (.bool t343)).setCell ⟨gb314, 1, none⟩ (.slice Ao182 t344.length co182)) w.heap.size (fun k_ => (w.heap.size ≤ k_) ∧ k_ ≠ gb310 ∧ k_ ≠ gb311 ∧ k_ ≠ gb312 ∧ k_ ≠ gb313 ∧ k_ ≠ gb314 ∧ k_ ≠ gb315 ∧ k_ ≠ gb342) (.slice Ao179 x315001_1.length co179) x315001_1) := ⟨by (with_reducible repeat (first | apply Kd.V_alloc | apply Kd.V_drewN | apply Kd.V_drew)); exact Kd.V_mono (Kd.V_far (p := ⟨gb314, 1, none⟩) (Kd.V_far (p := ⟨gb314, 0, none⟩) (Kd.V_mono HO_315001.out (fun k_ hk => (⟨hk, hk.2.2.2.2.2.1⟩ : _ ∧ k_ ≠ gb314))) (fun _ hk => hk.2) (.bool t343)) (fun _ hk => hk.2) (.slice Ao182 t344.length co182)) (fun _ hk => ⟨hk.1.1, ⟨hk.1.2.1, ⟨hk.1.2.2.1, ⟨hk.1.2.2.2.1, ⟨hk.1.2.2.2.2.1, ⟨hk.1.2.2.2.2.2.1, ⟨hk.1.2.2.2.2.2.2.1, hk.1.2.2.2.2.2.2.2⟩⟩⟩⟩⟩⟩⟩)⟩
   have n1_ : Aside0 (Kd.V (Kd.int .i64) 3 ((w180.setCell ⟨gb314, 0, none⟩ (.bool t343)).setCell ⟨gb314, 1, none⟩ (.slice Ao182 t344.length co182)) w.heap.size (fun k_ => (w.heap.size ≤ k_) ∧ k_ ≠ gb310 ∧ k_ ≠ gb311 ∧ k_ ≠ gb312 ∧ k_ ≠ gb313 ∧ k_ ≠ gb314 ∧ k_ ≠ gb315 ∧ k_ ≠ gb342) (.slice Ao100 t339.length co100) t339) := ⟨by (with_reducible repeat (first | apply Kd.V_alloc | apply Kd.V_drewN | apply Kd.V_drew)); exact Kd.V_mono (Kd.V_far (p := ⟨gb314, 1, none⟩) (Kd.V_far (p := ⟨gb314, 0, none⟩) (Kd.V_mono HO_343001.out (fun k_ hk => (⟨hk, hk.2.2.2.2.2.1⟩ : _ ∧ k_ ≠ gb314))) (fun _ hk => hk.2) (.bool t343)) (fun _ hk => hk.2) (.slice Ao182 t344.length co182)) (fun _ hk => ⟨hk.1.1, ⟨hk.1.2.1, ⟨hk.1.2.2.1, ⟨hk.1.2.2.2.1, ⟨hk.1.2.2.2.2.1, ⟨hk.1.2.2.2.2.2.1, ⟨hk.1.2.2.2.2.2.2.1, hk.1.2.2.2.2.2.2.2⟩⟩⟩⟩⟩⟩⟩)⟩
   have n2_ : Aside0 (Kd.V (Kd.int .i64) 3 ((w180.setCell ⟨gb314, 0, none⟩ (.bool t343)).setCell ⟨gb314, 1, none⟩ (.slice Ao182 t344.length co182)) w.heap.size (fun k_ => (w.heap.size ≤ k_) ∧ k_ ≠ gb310 ∧ k_ ≠ gb311 ∧ k_ ≠ gb312 ∧ k_ ≠ gb313 ∧ k_ ≠ gb314 ∧ k_ ≠ gb315 ∧ k_ ≠ gb342) (.slice Ao182 t344.length co182) t344) := ⟨by (with_reducible repeat (first | apply Kd.V_alloc | apply Kd.V_drewN | apply Kd.V_drew)); exact Kd.V_mono (Kd.V_far (p := ⟨gb314, 1, none⟩) (Kd.V_far (p := ⟨gb314, 0, none⟩) (Kd.V_mono HO346.out (fun k_ hk => (⟨hk, hk.2.2.2.2.2.1⟩ : _ ∧ k_ ≠ gb314))) (fun _ hk => hk.2) (.bool t343)) (fun _ hk => hk.2) (.slice Ao182 t344.length co182)) (fun _ hk => ⟨hk.1.1, ⟨hk.1.2.1, ⟨hk.1.2.2.1, ⟨hk.1.2.2.2.1, ⟨hk.1.2.2.2.2.1, ⟨hk.1.2.2.2.2.2.1, ⟨hk.1.2.2.2.2.2.2.1, hk.1.2.2.2.2.2.2.2⟩⟩⟩⟩⟩⟩⟩)⟩
   have n3_ : Aside0 (((w180.setCell ⟨gb314, 0, none⟩ (.bool t343)).setCell ⟨gb314, 1, none⟩ (.slice Ao182 t344.length co182)).heap[gb310]? = some (.cells #[.bool a0_0, .slice A0_1 l0_1.length c0_1] 36 (0, 0))) := ⟨bf BK310.out⟩
   have n4_ : Aside0 (((w180.setCell ⟨gb314, 0, none⟩ (.bool t343)).setCell ⟨gb314, 1, none⟩ (.slice Ao182 t344.length co182)).heap[gb311]? = some (.cells #[.bool false, .slice A1_1 l1_1.length c1_1] 36 (0, 0))) := ⟨bf BK311.out⟩
   have n5_ : Aside0 (((w180.setCell ⟨gb314, 0, none⟩ (.bool t343)).setCell ⟨gb314, 1, none⟩ (.slice Ao182 t344.length co182)).heap[gb312]? = some (.cells #[.bool false, .slice none 0 0] 36 (0, 0))) := ⟨bf BK312.out⟩
   have n6_ : Aside0 (((w180.setCell ⟨gb314, 0, none⟩ (.bool t343)).setCell ⟨gb314, 1, none⟩ (.slice Ao182 t344.length co182)).heap[gb313]? = some (.cells #[.bool false, .slice none 0 0] 36 (0, 0))) := ⟨bf BK313.out⟩
   have n7_ : Aside0 (((w180.setCell ⟨gb314, 0, none⟩ (.bool t343)).setCell ⟨gb314, 1, none⟩ (.slice Ao182 t344.length co182)).heap[gb314]? = some (.cells #[.bool t343, .slice Ao182 t344.length co182] 36 (0, 0))) := ⟨by (with_reducible repeat (first | refine blk_drewN ?_ _ | refine blk_drew ?_ | refine blk_alloc ?_ _)); refine blk_put (cs := #[.bool t343, .slice Ao179 x315001_1.length co179]) ?_ 1 _ rfl; (with_reducible repeat (first | refine blk_drewN ?_ _ | refine blk_drew ?_ | refine blk_alloc ?_ _)); refine blk_put (cs := #[.bool x315000_1, .slice Ao179 x315001_1.length co179]) ?_ 0 _ rfl; (with_reducible repeat (first | refine blk_drewN ?_ _ | refine blk_drew ?_ | refine blk_alloc ?_ _)); exact BK314.out⟩
   have n8_ : Aside0 (((w180.setCell ⟨gb314, 0, none⟩ (.bool t343)).setCell ⟨gb314, 1, none⟩ (.slice Ao182 t344.length co182)).heap[gb315]? = some (.cells #[.bool false, .slice A1_1 l1_1.length c1_1] 36 (0, 0))) := ⟨bf BK315.out⟩
   have n9_ : Aside0 (((w180.setCell ⟨gb314, 0, none⟩ (.bool t343)).setCell ⟨gb314, 1, none⟩ (.slice Ao182 t344.length co182)).heap[gb342]? = some (.cells #[.bool t338, .slice Ao100 t339.length co100] 36 (0, 0))) := ⟨bf BK342.out⟩
   have n10_ : Aside0 (Below w.heap.size w ((w180.setCell ⟨gb314, 0, none⟩ (.bool t343)).setCell ⟨gb314, 1, none⟩ (.slice Ao182 t344.length co182))) := ⟨bl⟩
   (try clear HO_315001)
   (try clear HO_343001)
   (try clear HO346)
   (try clear BK310)
   (try clear BK311)
   (try clear BK312)
   (try clear BK313)
   (try clear BK314)
   (try clear BK315)
   (try clear BK342)
   (try clear HB)
   generalize ((w180.setCell ⟨gb314, 0, none⟩ (.bool t343)).setCell ⟨gb314, 1, none⟩ (.slice Ao182 t344.length co182)) = w188 at n0_ n1_ n2_ n3_ n4_ n5_ n6_ n7_ n8_ n9_ n10_ ⊢
   have HO_315001 := n0_
   have HO_343001 := n1_
   have HO346 := n2_
   have BK310 := n3_
   have BK311 := n4_
   have BK312 := n5_
   have BK313 := n6_
   have BK314 := n7_
   have BK315 := n8_
   have BK342 := n9_
   have HB := n10_
   clear n0_ n1_ n2_ n3_ n4_ n5_ n6_ n7_ n8_ n9_ n10_
   have n0_ := Aside0.mk (Kd.V_drew HO_315001.out)
   have n1_ := Aside0.mk (Kd.V_drew HO_343001.out)
   have n2_ := Aside0.mk (Kd.V_drew HO346.out)
   have n3_ := Aside0.mk (blk_drew BK310.out)
   have n4_ := Aside0.mk (blk_drew BK311.out)
   have n5_ := Aside0.mk (blk_drew BK312.out)
   have n6_ := Aside0.mk (blk_drew BK313.out)
   have n7_ := Aside0.mk (blk_drew BK314.out)
   have n8_ := Aside0.mk (blk_drew BK315.out)
   have n9_ := Aside0.mk (blk_drew BK342.out)
   have n10_ := Aside0.mk (below_drew1 HB.out)
   clear HO_315001
   clear HO_343001
   clear HO346
   clear BK310
   clear BK311
   clear BK312
   clear BK313
   clear BK314
   clear BK315
   clear BK342
   clear HB
   have HO_315001 := n0_
   have HO_343001 := n1_
   have HO346 := n2_
   have BK310 := n3_
   have BK311 := n4_
   have BK312 := n5_
   have BK313 := n6_
   have BK314 := n7_
   have BK315 := n8_
   have BK342 := n9_
   have HB := n10_
   clear n0_ n1_ n2_ n3_ n4_ n5_ n6_ n7_ n8_ n9_ n10_
   refine start_ (n := 4) (S := fun w' => w'.cell? ⟨gb342, 0, none⟩ = some (.bool t338) ∧ w'.cell? ⟨gb342, 1, none⟩ = some (.slice Ao100 t339.length co100)) (ds := [3]) #[false,false,false,false] (by kernel_rfl) rfl rfl ⟨(blk_cell BK342.out 0).trans rfl, (blk_cell BK342.out 1).trans rfl⟩ (fun hHeld => ?_)
   generalize w188.drew = w189 at HO_315001 HO_343001 HO346 BK310 BK311 BK312 BK313 BK314 BK315 BK342 HB hHeld ⊢
   refine take_ (i := 0) (N := some 72) (v := ?_) (a' := ?_) #[true,false,false,false] rfl rfl (by kernel_rfl) (fun _ _ _ h => h) (Or.inl ⟨by rfl, ?_⟩) hHeld ?_ ?_
   rotate_left
   · rintro w' ⟨s0, s1⟩
     go_simp
     with_reducible rfl
   rotate_left; focus (simp only [Act.put, z1, z2, z3, i64_w, i32_w]; rfl)
   refine one_ (i := 1) (N := some 73) #[true,true,false,false] rfl rfl (by kernel_rfl) (by decide) (fun K hK => ?_)
   refine goes_ Try.func18 (by kernel_rfl) rfl #[.int .i64 1] (by rfl) rfl rfl (by (try simp only [List.map_toArray, List.map_cons, List.map_nil]); first | done | rfl | (simp only [List.length_drop, List.length_take]; rfl)) ?_
   with_reducible refine (maskref4_DecInt.calls kj77 1 t355 t356 _ A164.out).mono ?_
   rintro e w190 ⟨v357, rfl, ho0, hb⟩
   refine ⟨_, rfl, ?_⟩
   have n0_ := Aside0.mk (vb HO_315001.out hb)
   have n1_ := Aside0.mk (vb HO_343001.out hb)
   have n2_ := Aside0.mk (vb HO346.out hb)
   have n3_ := Aside0.mk (Kd.V_lower (Kd.V_mono (ok' := fun k_ => (w.heap.size ≤ k_) ∧ k_ ≠ gb310 ∧ k_ ≠ gb311 ∧ k_ ≠ gb312 ∧ k_ ≠ gb313 ∧ k_ ≠ gb314 ∧ k_ ≠ gb315 ∧ k_ ≠ gb342) ho0 (fun k_ hk_ => ⟨(Nat.le_trans (below_size bl) hk_), (Kd.freshB (g := gb310) (o := .cells #[.bool a0_0, .slice A0_1 l0_1.length c0_1] 36 (0, 0)) (bk BK310.out) k_ hk_), (Kd.freshB (g := gb311) (o := .cells #[.bool false, .slice A1_1 l1_1.length c1_1] 36 (0, 0)) (bk BK311.out) k_ hk_), (Kd.freshB (g := gb312) (o := .cells #[.bool false, .slice none 0 0] 36 (0, 0)) (bk BK312.out) k_ hk_), (Kd.freshB (g := gb313) (o := .cells #[.bool false, .slice none 0 0] 36 (0, 0)) (bk BK313.out) k_ hk_), (Kd.freshB (g := gb314) (o := .cells #[.bool t343, .slice Ao182 t344.length co182] 36 (0, 0)) (bk BK314.out) k_ hk_), (Kd.freshB (g := gb315) (o := .cells #[.bool false, .slice A1_1 l1_1.length c1_1] 36 (0, 0)) (bk BK315.out) k_ hk_), (Kd.freshB (g := gb342) (o := .cells #[.bool t338, .slice Ao100 t339.length co100] 36 (0, 0)) (bk BK342.out) k_ hk_)⟩)) (below_size bl))
   have n4_ := Aside0.mk (bb BK310.out hb)
   have n5_ := Aside0.mk (bb BK311.out hb)
   have n6_ := Aside0.mk (bb BK312.out hb)
   have n7_ := Aside0.mk (bb BK313.out hb)
   have n8_ := Aside0.mk (bb BK314.out hb)
   have n9_ := Aside0.mk (bb BK315.out hb)
   have n10_ := Aside0.mk (bb BK342.out hb)
   have n11_ := Aside0.mk (below_step bl hb)
   clear HO_315001
   clear HO_343001
   clear HO346
   clear BK310
   clear BK311
   clear BK312
   clear BK313
   clear BK314
   clear BK315
   clear BK342
   clear HB
   have HO_315001 := n0_
   have HO_343001 := n1_
   have HO346 := n2_
   have HO358 := n3_
   have BK310 := n4_
   have BK311 := n5_
   have BK312 := n6_
   have BK313 := n7_
   have BK314 := n8_
   have BK315 := n9_
   have BK342 := n10_
   have HB := n11_
   clear n0_ n1_ n2_ n3_ n4_ n5_ n6_ n7_ n8_ n9_ n10_ n11_
   (try clear hb)
   (try clear hb2)
   (try clear hk)
   (try clear hi)
   (try clear ho0)
   obtain ⟨Ao191, co191, eo191⟩ := Kd.V_slice HO358.out
   (first | subst eo191 | (injection eo191 with f1_ f2_ f3_; have f4_ := f1_.symm; have f5_ := f3_.symm; clear f1_ f2_ f3_; subst f4_; subst f5_))
   refine hK.out _ _ ⟨(blk_cell BK342.out 0).trans rfl, (blk_cell BK342.out 1).trans rfl⟩ (fun hHeld => ?_)
   clear hK K
   refine norm_ (a' := ?_) ?_ ?_
   rotate_left; focus (show Act.put _ (some 73) _ = _; simp only [Act.put, z1, z2, z3, i64_w, i32_w]; rfl)
   refine one_ (i := 2) (N := some 74) #[true,true,true,false] rfl rfl (by kernel_rfl) (by decide) (fun K hK => ?_)
   refine goes_ Try.func47 (by kernel_rfl) rfl #[.agg #[.bool t338, .slice Ao100 t339.length co100], .agg #[.bool t355, .slice Ao191 t356.length co191]] (by rfl) rfl rfl (by (try simp only [List.map_toArray, List.map_cons, List.map_nil]); first | done | rfl | (simp only [List.length_drop, List.length_take]; rfl)) ?_
   with_reducible refine (maskref4_Dec_Minus.calls kj77 t338 _ _ t339 t355 _ _ t356 t359 t360 _ ?side1 ?side2 ?side3 ?side4 A165.out).mono ?_
   (case side1 => exact kc ((Kd.V_reads' HO_343001.out).2.2))
   (case side2 => exact (Kd.V_reads' HO_343001.out).2.1)
   (case side3 => exact kc ((Kd.V_reads' HO358.out).2.2))
   (case side4 => exact (Kd.V_reads' HO358.out).2.1)
   rintro e w192 ⟨v361, rfl, ho0, hb⟩
   refine ⟨_, rfl, ?_⟩
   have n0_ := Aside0.mk (vb HO_315001.out hb)
   have n1_ := Aside0.mk (vb HO_343001.out hb)
   have n2_ := Aside0.mk (vb HO346.out hb)
   have n3_ := Aside0.mk (vb HO358.out hb)
   have n4_ := Aside0.mk (Kd.V_lower (Kd.V_mono (ok' := fun k_ => (w.heap.size ≤ k_) ∧ k_ ≠ gb310 ∧ k_ ≠ gb311 ∧ k_ ≠ gb312 ∧ k_ ≠ gb313 ∧ k_ ≠ gb314 ∧ k_ ≠ gb315 ∧ k_ ≠ gb342) ho0 (fun k_ hk_ => ⟨(Nat.le_trans (below_size bl) hk_), (Kd.freshB (g := gb310) (o := .cells #[.bool a0_0, .slice A0_1 l0_1.length c0_1] 36 (0, 0)) (bk BK310.out) k_ hk_), (Kd.freshB (g := gb311) (o := .cells #[.bool false, .slice A1_1 l1_1.length c1_1] 36 (0, 0)) (bk BK311.out) k_ hk_), (Kd.freshB (g := gb312) (o := .cells #[.bool false, .slice none 0 0] 36 (0, 0)) (bk BK312.out) k_ hk_), (Kd.freshB (g := gb313) (o := .cells #[.bool false, .slice none 0 0] 36 (0, 0)) (bk BK313.out) k_ hk_), (Kd.freshB (g := gb314) (o := .cells #[.bool t343, .slice Ao182 t344.length co182] 36 (0, 0)) (bk BK314.out) k_ hk_), (Kd.freshB (g := gb315) (o := .cells #[.bool false, .slice A1_1 l1_1.length c1_1] 36 (0, 0)) (bk BK315.out) k_ hk_), (Kd.freshB (g := gb342) (o := .cells #[.bool t338, .slice Ao100 t339.length co100] 36 (0, 0)) (bk BK342.out) k_ hk_)⟩)) (below_size bl))
   have n5_ := Aside0.mk (bb BK310.out hb)
   have n6_ := Aside0.mk (bb BK311.out hb)
   have n7_ := Aside0.mk (bb BK312.out hb)
   have n8_ := Aside0.mk (bb BK313.out hb)
   have n9_ := Aside0.mk (bb BK314.out hb)
   have n10_ := Aside0.mk (bb BK315.out hb)
   have n11_ := Aside0.mk (bb BK342.out hb)
   have n12_ := Aside0.mk (below_step bl hb)
   clear HO_315001
   clear HO_343001
   clear HO346
   clear HO358
   clear BK310
   clear BK311
   clear BK312
   clear BK313
   clear BK314
   clear BK315
   clear BK342
   clear HB
   have HO_315001 := n0_
   have HO_343001 := n1_
   have HO346 := n2_
   have HO358 := n3_
   have HO362 := n4_
   have BK310 := n5_
   have BK311 := n6_
   have BK312 := n7_
   have BK313 := n8_
   have BK314 := n9_
   have BK315 := n10_
   have BK342 := n11_
   have HB := n12_
   clear n0_ n1_ n2_ n3_ n4_ n5_ n6_ n7_ n8_ n9_ n10_ n11_ n12_
   (try clear hb)
   (try clear hb2)
   (try clear hk)
   (try clear hi)
   (try clear ho0)
   obtain ⟨Ao194, co194, eo194⟩ := Kd.V_slice HO362.out
   (first | subst eo194 | (injection eo194 with f1_ f2_ f3_; have f4_ := f1_.symm; have f5_ := f3_.symm; clear f1_ f2_ f3_; subst f4_; subst f5_))
   refine hK.out _ _ ⟨(blk_cell BK342.out 0).trans rfl, (blk_cell BK342.out 1).trans rfl⟩ (fun hHeld => ?_)
   clear hK K
   refine norm_ (a' := ?_) ?_ ?_
   rotate_left; focus (show Act.put _ (some 74) _ = _; simp only [Act.put, z1, z2, z3, i64_w, i32_w]; rfl)
   refine last_ (i := 3) (N := none) #[true,true,true,true] rfl rfl (by kernel_rfl) (by decide) (fun K hK => ?_)
   have hfs193 := blk_frozen BK342.out 0
   have hfs195 := blk_frozen BK342.out 1
   refine skip_ (w1 := ?_) (by rfl) rfl ?_ ?_
   rotate_left; focus (go_simp; rfl)
   refine hK.out _ _ ?_
   clear hK K
   refine done_ (by kernel_rfl) ?_
   try go_wp2
   have n0_ : Aside0 (Kd.V (Kd.int .i64) 3 ((w192.setCell ⟨gb342, 0, none⟩ (.bool t359)).setCell ⟨gb342, 1, none⟩ (.slice Ao194 t360.length co194)) w.heap.size (fun k_ => (w.heap.size ≤ k_) ∧ k_ ≠ gb310 ∧ k_ ≠ gb311 ∧ k_ ≠ gb312 ∧ k_ ≠ gb313 ∧ k_ ≠ gb314 ∧ k_ ≠ gb315 ∧ k_ ≠ gb342) (.slice Ao179 x315001_1.length co179) x315001_1) := ⟨by (with_reducible repeat (first | apply Kd.V_alloc | apply Kd.V_drewN | apply Kd.V_drew)); exact Kd.V_mono (Kd.V_far (p := ⟨gb342, 1, none⟩) (Kd.V_far (p := ⟨gb342, 0, none⟩) (Kd.V_mono HO_315001.out (fun k_ hk => (⟨hk, hk.2.2.2.2.2.2.2⟩ : _ ∧ k_ ≠ gb342))) (fun _ hk => hk.2) (.bool t359)) (fun _ hk => hk.2) (.slice Ao194 t360.length co194)) (fun _ hk => ⟨hk.1.1, ⟨hk.1.2.1, ⟨hk.1.2.2.1, ⟨hk.1.2.2.2.1, ⟨hk.1.2.2.2.2.1, ⟨hk.1.2.2.2.2.2.1, ⟨hk.1.2.2.2.2.2.2.1, hk.1.2.2.2.2.2.2.2⟩⟩⟩⟩⟩⟩⟩)⟩
   have n1_ : Aside0 (Kd.V (Kd.int .i64) 3 ((w192.setCell ⟨gb342, 0, none⟩ (.bool t359)).setCell ⟨gb342, 1, none⟩ (.slice Ao194 t360.length co194)) w.heap.size (fun k_ => (w.heap.size ≤ k_) ∧ k_ ≠ gb310 ∧ k_ ≠ gb311 ∧ k_ ≠ gb312 ∧ k_ ≠ gb313 ∧ k_ ≠ gb314 ∧ k_ ≠ gb315 ∧ k_ ≠ gb342) (.slice Ao100 t339.length co100) t339) := ⟨by (with_reducible repeat (first | apply Kd.V_alloc | apply Kd.V_drewN | apply Kd.V_drew)); exact Kd.V_mono (Kd.V_far (p := ⟨gb342, 1, none⟩) (Kd.V_far (p := ⟨gb342, 0, none⟩) (Kd.V_mono HO_343001.out (fun k_ hk => (⟨hk, hk.2.2.2.2.2.2.2⟩ : _ ∧ k_ ≠ gb342))) (fun _ hk => hk.2) (.bool t359)) (fun _ hk => hk.2) (.slice Ao194 t360.length co194)) (fun _ hk => ⟨hk.1.1, ⟨hk.1.2.1, ⟨hk.1.2.2.1, ⟨hk.1.2.2.2.1, ⟨hk.1.2.2.2.2.1, ⟨hk.1.2.2.2.2.2.1, ⟨hk.1.2.2.2.2.2.2.1, hk.1.2.2.2.2.2.2.2⟩⟩⟩⟩⟩⟩⟩)⟩
   have n2_ : Aside0 (Kd.V (Kd.int .i64) 3 ((w192.setCell ⟨gb342, 0, none⟩ (.bool t359)).setCell ⟨gb342, 1, none⟩ (.slice Ao194 t360.length co194)) w.heap.size (fun k_ => (w.heap.size ≤ k_) ∧ k_ ≠ gb310 ∧ k_ ≠ gb311 ∧ k_ ≠ gb312 ∧ k_ ≠ gb313 ∧ k_ ≠ gb314 ∧ k_ ≠ gb315 ∧ k_ ≠ gb342) (.slice Ao182 t344.length co182) t344) := ⟨by (with_reducible repeat (first | apply Kd.V_alloc | apply Kd.V_drewN | apply Kd.V_drew)); exact Kd.V_mono (Kd.V_far (p := ⟨gb342, 1, none⟩) (Kd.V_far (p := ⟨gb342, 0, none⟩) (Kd.V_mono HO346.out (fun k_ hk => (⟨hk, hk.2.2.2.2.2.2.2⟩ : _ ∧ k_ ≠ gb342))) (fun _ hk => hk.2) (.bool t359)) (fun _ hk => hk.2) (.slice Ao194 t360.length co194)) (fun _ hk => ⟨hk.1.1, ⟨hk.1.2.1, ⟨hk.1.2.2.1, ⟨hk.1.2.2.2.1, ⟨hk.1.2.2.2.2.1, ⟨hk.1.2.2.2.2.2.1, ⟨hk.1.2.2.2.2.2.2.1, hk.1.2.2.2.2.2.2.2⟩⟩⟩⟩⟩⟩⟩)⟩
   have n3_ : Aside0 (Kd.V (Kd.int .i64) 3 ((w192.setCell ⟨gb342, 0, none⟩ (.bool t359)).setCell ⟨gb342, 1, none⟩ (.slice Ao194 t360.length co194)) w.heap.size (fun k_ => (w.heap.size ≤ k_) ∧ k_ ≠ gb310 ∧ k_ ≠ gb311 ∧ k_ ≠ gb312 ∧ k_ ≠ gb313 ∧ k_ ≠ gb314 ∧ k_ ≠ gb315 ∧ k_ ≠ gb342) (.slice Ao191 t356.length co191) t356) := ⟨by (with_reducible repeat (first | apply Kd.V_alloc | apply Kd.V_drewN | apply Kd.V_drew)); exact Kd.V_mono (Kd.V_far (p := ⟨gb342, 1, none⟩) (Kd.V_far (p := ⟨gb342, 0, none⟩) (Kd.V_mono HO358.out (fun k_ hk => (⟨hk, hk.2.2.2.2.2.2.2⟩ : _ ∧ k_ ≠ gb342))) (fun _ hk => hk.2) (.bool t359)) (fun _ hk => hk.2) (.slice Ao194 t360.length co194)) (fun _ hk => ⟨hk.1.1, ⟨hk.1.2.1, ⟨hk.1.2.2.1, ⟨hk.1.2.2.2.1, ⟨hk.1.2.2.2.2.1, ⟨hk.1.2.2.2.2.2.1, ⟨hk.1.2.2.2.2.2.2.1, hk.1.2.2.2.2.2.2.2⟩⟩⟩⟩⟩⟩⟩)⟩
   have n4_ : Aside0 (Kd.V (Kd.int .i64) 3 ((w192.setCell ⟨gb342, 0, none⟩ (.bool t359)).setCell ⟨gb342, 1, none⟩ (.slice Ao194 t360.length co194)) w.heap.size (fun k_ => (w.heap.size ≤ k_) ∧ k_ ≠ gb310 ∧ k_ ≠ gb311 ∧ k_ ≠ gb312 ∧ k_ ≠ gb313 ∧ k_ ≠ gb314 ∧ k_ ≠ gb315 ∧ k_ ≠ gb342) (.slice Ao194 t360.length co194) t360) := ⟨by (with_reducible repeat (first | apply Kd.V_alloc | apply Kd.V_drewN | apply Kd.V_drew)); exact Kd.V_mono (Kd.V_far (p := ⟨gb342, 1, none⟩) (Kd.V_far (p := ⟨gb342, 0, none⟩) (Kd.V_mono HO362.out (fun k_ hk => (⟨hk, hk.2.2.2.2.2.2.2⟩ : _ ∧ k_ ≠ gb342))) (fun _ hk => hk.2) (.bool t359)) (fun _ hk => hk.2) (.slice Ao194 t360.length co194)) (fun _ hk => ⟨hk.1.1, ⟨hk.1.2.1, ⟨hk.1.2.2.1, ⟨hk.1.2.2.2.1, ⟨hk.1.2.2.2.2.1, ⟨hk.1.2.2.2.2.2.1, ⟨hk.1.2.2.2.2.2.2.1, hk.1.2.2.2.2.2.2.2⟩⟩⟩⟩⟩⟩⟩)⟩
   have n5_ : Aside0 (((w192.setCell ⟨gb342, 0, none⟩ (.bool t359)).setCell ⟨gb342, 1, none⟩ (.slice Ao194 t360.length co194)).heap[gb310]? = some (.cells #[.bool a0_0, .slice A0_1 l0_1.length c0_1] 36 (0, 0))) := ⟨bf BK310.out⟩
   have n6_ : Aside0 (((w192.setCell ⟨gb342, 0, none⟩ (.bool t359)).setCell ⟨gb342, 1, none⟩ (.slice Ao194 t360.length co194)).heap[gb311]? = some (.cells #[.bool false, .slice A1_1 l1_1.length c1_1] 36 (0, 0))) := ⟨bf BK311.out⟩
   have n7_ : Aside0 (((w192.setCell ⟨gb342, 0, none⟩ (.bool t359)).setCell ⟨gb342, 1, none⟩ (.slice Ao194 t360.length co194)).heap[gb312]? = some (.cells #[.bool false, .slice none 0 0] 36 (0, 0))) := ⟨bf BK312.out⟩
   have n8_ : Aside0 (((w192.setCell ⟨gb342, 0, none⟩ (.bool t359)).setCell ⟨gb342, 1, none⟩ (.slice Ao194 t360.length co194)).heap[gb313]? = some (.cells #[.bool false, .slice none 0 0] 36 (0, 0))) := ⟨bf BK313.out⟩
   have n9_ : Aside0 (((w192.setCell ⟨gb342, 0, none⟩ (.bool t359)).setCell ⟨gb342, 1, none⟩ (.slice Ao194 t360.length co194)).heap[gb314]? = some (.cells #[.bool t343, .slice Ao182 t344.length co182] 36 (0, 0))) := ⟨bf BK314.out⟩
   have n10_ : Aside0 (((w192.setCell ⟨gb342, 0, none⟩ (.bool t359)).setCell ⟨gb342, 1, none⟩ (.slice Ao194 t360.length co194)).heap[gb315]? = some (.cells #[.bool false, .slice A1_1 l1_1.length c1_1] 36 (0, 0))) := ⟨bf BK315.out⟩
   have n11_ : Aside0 (((w192.setCell ⟨gb342, 0, none⟩ (.bool t359)).setCell ⟨gb342, 1, none⟩ (.slice Ao194 t360.length co194)).heap[gb342]? = some (.cells #[.bool t359, .slice Ao194 t360.length co194] 36 (0, 0))) := ⟨by (with_reducible repeat (first | refine blk_drewN ?_ _ | refine blk_drew ?_ | refine blk_alloc ?_ _)); refine blk_put (cs := #[.bool t359, .slice Ao100 t339.length co100]) ?_ 1 _ rfl; (with_reducible repeat (first | refine blk_drewN ?_ _ | refine blk_drew ?_ | refine blk_alloc ?_ _)); refine blk_put (cs := #[.bool t338, .slice Ao100 t339.length co100]) ?_ 0 _ rfl; (with_reducible repeat (first | refine blk_drewN ?_ _ | refine blk_drew ?_ | refine blk_alloc ?_ _)); exact BK342.out⟩
   have n12_ : Aside0 (Below w.heap.size w ((w192.setCell ⟨gb342, 0, none⟩ (.bool t359)).setCell ⟨gb342, 1, none⟩ (.slice Ao194 t360.length co194))) := ⟨bl⟩
   (try clear HO_315001)
   (try clear HO_343001)
   (try clear HO346)
   (try clear HO358)
   (try clear HO362)
   (try clear BK310)
   (try clear BK311)
   (try clear BK312)
   (try clear BK313)
   (try clear BK314)
   (try clear BK315)
   (try clear BK342)
   (try clear HB)
   generalize ((w192.setCell ⟨gb342, 0, none⟩ (.bool t359)).setCell ⟨gb342, 1, none⟩ (.slice Ao194 t360.length co194)) = w196 at n0_ n1_ n2_ n3_ n4_ n5_ n6_ n7_ n8_ n9_ n10_ n11_ n12_ ⊢
   have HO_315001 := n0_
   have HO_343001 := n1_
   have HO346 := n2_
   have HO358 := n3_
   have HO362 := n4_
   have BK310 := n5_
   have BK311 := n6_
   have BK312 := n7_
   have BK313 := n8_
   have BK314 := n9_
   have BK315 := n10_
   have BK342 := n11_
   have HB := n12_
   clear n0_ n1_ n2_ n3_ n4_ n5_ n6_ n7_ n8_ n9_ n10_ n11_ n12_
   have n0_ := Aside0.mk (Kd.V_drew HO_315001.out)
   have n1_ := Aside0.mk (Kd.V_drew HO_343001.out)
   have n2_ := Aside0.mk (Kd.V_drew HO346.out)
   have n3_ := Aside0.mk (Kd.V_drew HO358.out)
   have n4_ := Aside0.mk (Kd.V_drew HO362.out)
   have n5_ := Aside0.mk (blk_drew BK310.out)
   have n6_ := Aside0.mk (blk_drew BK311.out)
   have n7_ := Aside0.mk (blk_drew BK312.out)
   have n8_ := Aside0.mk (blk_drew BK313.out)
   have n9_ := Aside0.mk (blk_drew BK314.out)
   have n10_ := Aside0.mk (blk_drew BK315.out)
   have n11_ := Aside0.mk (blk_drew BK342.out)
   have n12_ := Aside0.mk (below_drew1 HB.out)
   clear HO_315001
   clear HO_343001
   clear HO346
   clear HO358
   clear HO362
   clear BK310
   clear BK311
   clear BK312
   clear BK313
   clear BK314
   clear BK315
   clear BK342
   clear HB
   have HO_315001 := n0_
   have HO_343001 := n1_
   have HO346 := n2_
   have HO358 := n3_
   have HO362 := n4_
   have BK310 := n5_
   have BK311 := n6_
   have BK312 := n7_
   have BK313 := n8_
   have BK314 := n9_
   have BK315 := n10_
   have BK342 := n11_
   have HB := n12_
   clear n0_ n1_ n2_ n3_ n4_ n5_ n6_ n7_ n8_ n9_ n10_ n11_ n12_
   refine start_ (n := 4) (S := fun w' => w'.cell? ⟨gb342, 0, none⟩ = some (.bool t359) ∧ w'.cell? ⟨gb342, 1, none⟩ = some (.slice Ao194 t360.length co194) ∧ w'.cell? ⟨gb314, 0, none⟩ = some (.bool t343) ∧ w'.cell? ⟨gb314, 1, none⟩ = some (.slice Ao182 t344.length co182)) (ds := []) #[false,false,false,false] (by kernel_rfl) rfl rfl ⟨(blk_cell BK342.out 0).trans rfl, (blk_cell BK342.out 1).trans rfl, (blk_cell BK314.out 0).trans rfl, (blk_cell BK314.out 1).trans rfl⟩ (fun hHeld => ?_)
   generalize w196.drew = w197 at HO_315001 HO_343001 HO346 HO358 HO362 BK310 BK311 BK312 BK313 BK314 BK315 BK342 HB hHeld ⊢
   refine take_ (i := 0) (N := some 75) (v := ?_) (a' := ?_) #[true,false,false,false] rfl rfl (by kernel_rfl) (fun _ _ _ h => h) (Or.inl ⟨by rfl, ?_⟩) hHeld ?_ ?_
   rotate_left
   · rintro w' ⟨s0, s1, s2, s3⟩
     go_simp
     with_reducible rfl
   rotate_left; focus (simp only [Act.put, z1, z2, z3, i64_w, i32_w]; rfl)
   refine take_ (i := 1) (N := some 76) (v := ?_) (a' := ?_) #[true,true,false,false] rfl rfl (by kernel_rfl) (fun _ _ _ h => h) (Or.inl ⟨by rfl, ?_⟩) hHeld ?_ ?_
   rotate_left
   · rintro w' ⟨s0, s1, s2, s3⟩
     go_simp
     with_reducible rfl
   rotate_left; focus (simp only [Act.put, z1, z2, z3, i64_w, i32_w]; rfl)
   refine one_ (i := 2) (N := none) #[true,true,true,false] rfl rfl (by kernel_rfl) (by decide) (fun K hK => ?_)
   have hs198 : w197.cell? ⟨gb312, 0, none⟩ = some (.bool false) := (blk_cell BK312.out 0).trans rfl
   have hfs198 := blk_frozen BK312.out 0
   have hs199 : w197.cell? ⟨gb312, 1, none⟩ = some (.slice none 0 0) := (blk_cell BK312.out 1).trans rfl
   have hfs199 := blk_frozen BK312.out 1
   refine skip_ (w1 := ?_) (by rfl) rfl ?_ ?_
   rotate_left; focus (go_simp; rfl)
   refine hK.out _ _ ⟨((cell_far (p := ⟨gb312, _, none⟩) NB342_312.out _).trans (((cell_far (p := ⟨gb312, _, none⟩) NB342_312.out _).trans (hHeld.1)))), ((cell_far (p := ⟨gb312, _, none⟩) NB342_312.out _).trans (((cell_far (p := ⟨gb312, _, none⟩) NB342_312.out _).trans (hHeld.2.1)))), ((cell_far (p := ⟨gb312, _, none⟩) NB314_312.out _).trans (((cell_far (p := ⟨gb312, _, none⟩) NB314_312.out _).trans (hHeld.2.2.1)))), ((cell_far (p := ⟨gb312, _, none⟩) NB314_312.out _).trans (((cell_far (p := ⟨gb312, _, none⟩) NB314_312.out _).trans (hHeld.2.2.2))))⟩ (fun hHeld => ?_)
   clear hK K
   refine one_ (i := 3) (N := none) #[true,true,true,true] rfl rfl (by kernel_rfl) (by decide) (fun K hK => ?_)
   have hs200 : w197.cell? ⟨gb313, 0, none⟩ = some (.bool false) := (blk_cell BK313.out 0).trans rfl
   have hfs200 := blk_frozen BK313.out 0
   have hs201 : w197.cell? ⟨gb313, 1, none⟩ = some (.slice none 0 0) := (blk_cell BK313.out 1).trans rfl
   have hfs201 := blk_frozen BK313.out 1
   have hms201_2 := NB313_312.out
   have hms201_4 := NB313_314.out
   have hms201_5 := NB313_315.out
   have hms201_6 := NB313_342.out
   refine skip_ (w1 := ?_) (by rfl) rfl ?_ ?_
   rotate_left; focus (go_simp; rfl)
   refine hK.out _ _ ⟨((cell_far (p := ⟨gb313, _, none⟩) NB342_313.out _).trans (((cell_far (p := ⟨gb313, _, none⟩) NB342_313.out _).trans (hHeld.1)))), ((cell_far (p := ⟨gb313, _, none⟩) NB342_313.out _).trans (((cell_far (p := ⟨gb313, _, none⟩) NB342_313.out _).trans (hHeld.2.1)))), ((cell_far (p := ⟨gb313, _, none⟩) NB314_313.out _).trans (((cell_far (p := ⟨gb313, _, none⟩) NB314_313.out _).trans (hHeld.2.2.1)))), ((cell_far (p := ⟨gb313, _, none⟩) NB314_313.out _).trans (((cell_far (p := ⟨gb313, _, none⟩) NB314_313.out _).trans (hHeld.2.2.2))))⟩ (fun hHeld => ?_)
   clear hK K
   refine done_ (by kernel_rfl) ?_
   try go_wp2
   refine bodyPost_ret (results_cc rfl _ _ gb312 gb313 36 36 #[.bool t359, .slice Ao194 t360.length co194] #[.bool t343, .slice Ao182 t344.length co182] (0, 0) (0, 0) _ _ rfl (by (with_reducible repeat (first | refine blk_drewN ?_ _ | refine blk_drew ?_ | refine blk_alloc ?_ _)); refine blk_far ?_ NB312_313.out _; (with_reducible repeat (first | refine blk_drewN ?_ _ | refine blk_drew ?_ | refine blk_alloc ?_ _)); refine blk_far ?_ NB312_313.out _; (with_reducible repeat (first | refine blk_drewN ?_ _ | refine blk_drew ?_ | refine blk_alloc ?_ _)); refine blk_put (cs := #[.bool t359, .slice none 0 0]) ?_ 1 _ rfl; (with_reducible repeat (first | refine blk_drewN ?_ _ | refine blk_drew ?_ | refine blk_alloc ?_ _)); refine blk_put (cs := #[.bool false, .slice none 0 0]) ?_ 0 _ rfl; (with_reducible repeat (first | refine blk_drewN ?_ _ | refine blk_drew ?_ | refine blk_alloc ?_ _)); exact BK312.out) Try.underlying36 rfl (by kernel_rfl) rfl (by (with_reducible repeat (first | refine blk_drewN ?_ _ | refine blk_drew ?_ | refine blk_alloc ?_ _)); refine blk_put (cs := #[.bool t343, .slice none 0 0]) ?_ 1 _ rfl; (with_reducible repeat (first | refine blk_drewN ?_ _ | refine blk_drew ?_ | refine blk_alloc ?_ _)); refine blk_put (cs := #[.bool false, .slice none 0 0]) ?_ 0 _ rfl; (with_reducible repeat (first | refine blk_drewN ?_ _ | refine blk_drew ?_ | refine blk_alloc ?_ _)); refine blk_far ?_ NB313_312.out _; (with_reducible repeat (first | refine blk_drewN ?_ _ | refine blk_drew ?_ | refine blk_alloc ?_ _)); refine blk_far ?_ NB313_312.out _; (with_reducible repeat (first | refine blk_drewN ?_ _ | refine blk_drew ?_ | refine blk_alloc ?_ _)); exact BK313.out) Try.underlying36 rfl (by kernel_rfl)) rfl ?_
   exact ⟨_, _, by first | rfl | (simp [errW_none, errW_some] <;> rfl) | (simp [*, errW_none, errW_some] <;> rfl), by (with_reducible repeat (first | apply Kd.V_alloc | apply Kd.V_drewN | apply Kd.V_drew)); exact Kd.V_mono (Kd.V_far (p := ⟨gb313, 1, none⟩) (Kd.V_far (p := ⟨gb313, 0, none⟩) (Kd.V_far (p := ⟨gb312, 1, none⟩) (Kd.V_far (p := ⟨gb312, 0, none⟩) (Kd.V_mono (Kd.V_mono HO362.out (fun k_ hk => (⟨hk, hk.2.2.2.1⟩ : _ ∧ k_ ≠ gb312))) (fun k_ hk => (⟨hk, hk.1.2.2.2.2.1⟩ : _ ∧ k_ ≠ gb313))) (fun _ hk => hk.1.2) (.bool t359)) (fun _ hk => hk.1.2) (.slice Ao194 t360.length co194)) (fun _ hk => hk.2) (.bool t343)) (fun _ hk => hk.2) (.slice Ao182 t344.length co182)) (fun _ hk => hk.1.1.1), by (with_reducible repeat (first | apply Kd.V_alloc | apply Kd.V_drewN | apply Kd.V_drew)); exact Kd.V_mono (Kd.V_far (p := ⟨gb313, 1, none⟩) (Kd.V_far (p := ⟨gb313, 0, none⟩) (Kd.V_far (p := ⟨gb312, 1, none⟩) (Kd.V_far (p := ⟨gb312, 0, none⟩) (Kd.V_mono (Kd.V_mono HO346.out (fun k_ hk => (⟨hk, hk.2.2.2.1⟩ : _ ∧ k_ ≠ gb312))) (fun k_ hk => (⟨hk, hk.1.2.2.2.2.1⟩ : _ ∧ k_ ≠ gb313))) (fun _ hk => hk.1.2) (.bool t359)) (fun _ hk => hk.1.2) (.slice Ao194 t360.length co194)) (fun _ hk => hk.2) (.bool t343)) (fun _ hk => hk.2) (.slice Ao182 t344.length co182)) (fun _ hk => hk.1.1.1), bl⟩

end Go.Proofs.Ytlbljdjbcbgnlaa.PX
namespace Go.Proofs.Ytlbljdjbcbgnlaa.PX
open Go.RowKit Go.Proofs.YtlbljdjbcbgnlaaW.PrintWords Go.Proofs.YtlbljdjbcbgnlaaW.PrintLast Go.Proofs.YtlbljdjbcbgnlaaW.PrintMore
attribute [local go_sem] max2_int min2_int max_two min_two max_three min_three max_four min_four   -- for this text's walks alone
set_option linter.unusedVariables false
set_option linter.unusedSimpArgs false

-- the contract of function 33 ((maskwright/maskref4.Dec).BitsOf): written by hand
/-! ### maskref4_Dec_BitsOf: function 33 -/
def maskref4_Dec_BitsOf.l0 : Nat → Int → Bool → List Int → Bool → List Int → Option (Int)
 | 0, _, _, _, _, _ => none
 | k + 1, x3, x369000, x369001, x370000, x370001 => if (x370001.length : Int) > 0 then ((maskref4_Dec_Split.f k x370000 x370001 x369000 x369001).bind fun bt370 => (maskref4_Dec_BitsOf.l0 k (wrap64 (x3 + 1)) x369000 x369001 bt370.1 bt370.2.1)) else (some x3)
def maskref4_Dec_BitsOf.f (k : Nat) (a0_0 : Bool) (l0_1 : List Int) : Option (Int) := (maskref4_DecInt.f k 2).bind fun bt364 => (maskref4_Dec_BitsOf.l0 k 0 bt364.1 bt364.2 false l0_1)
theorem maskref4_Dec_BitsOf.mono_l : ∀ k, (∀ y0 y1 y2 y3 y4, LeO (maskref4_Dec_BitsOf.l0 k y0 y1 y2 y3 y4) (maskref4_Dec_BitsOf.l0 (k + 1) y0 y1 y2 y3 y4))
 | 0 => fun _ _ _ _ _ r h => by simp [maskref4_Dec_BitsOf.l0] at h
 | k + 1 => by
  have ih0 := maskref4_Dec_BitsOf.mono_l k
  · intro y0 y1 y2 y3 y4
    unfold maskref4_Dec_BitsOf.l0
    repeat' first
    | (with_reducible exact ih0 _ _ _ _ _)
    | (with_reducible exact maskref4_Dec_Split.mono _ _ _ _ _)
    | (with_reducible exact LeO.refl _)
    | (with_reducible exact LeO.none _)
    | (with_reducible refine LeO.ite ?_ ?_)
    | (with_reducible refine LeO.bind ?_ (fun _ => ?_))
theorem maskref4_Dec_BitsOf.mono : ∀ a0 a1 k, LeO (maskref4_Dec_BitsOf.f k a0 a1) (maskref4_Dec_BitsOf.f (k + 1) a0 a1) := by
 intro a0 a1 k
 have ih0 := maskref4_Dec_BitsOf.mono_l k
 unfold maskref4_Dec_BitsOf.f
 repeat' first
  | (with_reducible exact ih0 _ _ _ _ _)
  | (with_reducible exact maskref4_DecInt.mono _ _)
  | (with_reducible exact LeO.refl _)
  | (with_reducible exact LeO.none _)
  | (with_reducible refine LeO.ite ?_ ?_)
  | (with_reducible refine LeO.bind ?_ (fun _ => ?_))
set_option maxHeartbeats 8000000 in
set_option maxRecDepth 100000 in
theorem maskref4_Dec_BitsOf.calls (k : Nat) (a0_0 : Bool) (A0_1 : Option Addr) (c0_1 : Nat) (l0_1 : List Int) (r : Int) (w : World) (hr0_1 : Kd.C (Kd.int .i64) w A0_1 l0_1.length l0_1) (hc0_1 : l0_1.length ≤ c0_1) (h : maskref4_Dec_BitsOf.f k a0_0 l0_1 = some r) :
 Calls Try.prog 33 #[.agg #[.bool a0_0, .slice A0_1 l0_1.length c0_1]] w fun e w' => e = .returned (.int .i64 r) ∧ Below w.heap.size w w' := by
 unfold maskref4_Dec_BitsOf.f at h
 obtain ⟨⟨tn, tl⟩, h2, h⟩ := Option.bind_eq_some_iff.mp h
 have H := Aside0.mk (show maskref4_Dec_BitsOf.l0 k 0 tn tl false l0_1 = some r from h)
 clear h
 have HB := Aside0.mk (below_alloc (Below.refl w.heap.size w) (.cells #[.bool a0_0, .slice A0_1 l0_1.length c0_1] 36))
 have X0 := Aside0.mk (blk_new w (.cells #[.bool a0_0, .slice A0_1 l0_1.length c0_1] 36))
 have HV := Aside0.mk (Kd.V_alloc (Kd.V_mk (base := w.heap.size) (e := 3) hc0_1 (Kd.C_F (Kd.heap_int .i64) hr0_1)) (.cells #[.bool a0_0, .slice A0_1 l0_1.length c0_1] 36))
 clear hr0_1
 go_enter Try.func33, Try.ntmps33
 go_wp2_with fail
 refine (maskref4_DecInt.calls k 2 tn tl _ h2).mono ?_
 rintro e w1 ⟨v, rfl, hV, hw⟩
 obtain ⟨A2, c2, rfl⟩ := Kd.V_slice hV
 replace HB := Aside0.mk (below_step HB.out hw)
 replace X0 := Aside0.mk (blk_below X0.out hw)
 replace HV := Aside0.mk (Kd.V_below HV.out hw)
 have H2 := Aside0.mk (Kd.V_bound hV)
 have SZ := Aside0.mk (Nat.le_trans (show w.heap.size + 1 ≤ (w.alloc (.cells #[.bool a0_0, .slice A0_1 l0_1.length c0_1] 36)).heap.size by simp) hw.size)
 clear hV hw
 replace HB := Aside0.mk (below_alloc HB.out (.cells #[.bool tn, .slice A2 tl.length c2] 36))
 replace X0 := Aside0.mk (blk_alloc X0.out (.cells #[.bool tn, .slice A2 tl.length c2] 36))
 have X2 := Aside0.mk (blk_new w1 (.cells #[.bool tn, .slice A2 tl.length c2] 36))
 replace HV := Aside0.mk (Kd.V_alloc HV.out (.cells #[.bool tn, .slice A2 tl.length c2] 36))
 replace H2 := Aside0.mk (Kd.V_alloc H2.out (.cells #[.bool tn, .slice A2 tl.length c2] 36))
 have L2 := Aside0.mk (blk_lt X2.out)
 go_upto_region 3 with (fail)
 generalize w1.heap.size = g2 at *
 generalize w1.alloc (.cells #[.bool tn, .slice A2 tl.length c2] 36) = w2 at *
 have x0 : w2.cell? ⟨w.heap.size, 1, none⟩ = some (.slice A0_1 l0_1.length c0_1) := (blk_cell X0.out 1).trans rfl
 go_wp2_with fail
 clear x0
 replace HB := Aside0.mk (below_alloc HB.out (.cells #[.bool false, .slice A0_1 l0_1.length c0_1] 36))
 replace X2 := Aside0.mk (blk_alloc X2.out (.cells #[.bool false, .slice A0_1 l0_1.length c0_1] 36))
 have X5 := Aside0.mk (blk_new w2 (.cells #[.bool false, .slice A0_1 l0_1.length c0_1] 36))
 replace HV := Aside0.mk (Kd.V_mono (Kd.V_alloc (Kd.V_bound HV.out) (.cells #[.bool false, .slice A0_1 l0_1.length c0_1] 36)) (ok' := fun k => k ≠ w2.heap.size) (fun k hk => by have := hk.2; omega))
 replace H2 := Aside0.mk (Kd.V_mono (Kd.V_alloc H2.out (.cells #[.bool false, .slice A0_1 l0_1.length c0_1] 36)) (ok' := fun k => k < w2.heap.size) (fun k hk => by have := hk.2; have := L2.out; omega))
 have GE := Aside0.mk (show w.heap.size ≤ w2.heap.size by have := SZ.out; have := L2.out; omega)
 clear X0
 go_loopg [3, 5] k (fun kq v3 v5 W => ∃ (x3 : Int) (g : Nat) (A : Option Addr) (c : Nat) (xn : Bool) (xl : List Int), v3 = .int .i64 x3 ∧ v5 = .pointer (some ⟨g, 0, none⟩) ∧ Aside0 (maskref4_Dec_BitsOf.l0 kq x3 tn tl xn xl = some r) ∧ Aside0 (kq ≤ k) ∧ Aside0 (W.heap[g]? = some (.cells #[.bool xn, .slice A xl.length c] 36 (0, 0))) ∧ Aside0 (w2.heap.size ≤ g) ∧ Aside0 (Kd.V (Kd.int .i64) 3 W w.heap.size (fun k => k ≠ g) (.slice A xl.length c) xl) ∧ Aside0 (Kd.V (Kd.int .i64) 3 W w.heap.size (fun k => k < w2.heap.size) (.slice A2 tl.length c2) tl) ∧ Aside0 (W.heap[g2]? = some (.cells #[.bool tn, .slice A2 tl.length c2] 36 (0, 0))) ∧ Aside0 (Below w.heap.size w W))
 case atStart => exact ⟨0, w2.heap.size, A0_1, c0_1, false, l0_1, rfl, rfl, H, ⟨Nat.le_refl _⟩, X5, ⟨Nat.le_refl _⟩, HV, H2, X2, HB⟩
 clear HV H2 X2 X5 HB H
 obtain ⟨x3, g, A, c, xn, xl, rfl, rfl, HA, HK, X5, GG, HV, H2, X2, HB⟩ := hrel
 have p0 : wr.cell? ⟨g, 0, none⟩ = some (.bool xn) := (blk_cell X5.out 0).trans rfl
 have p1 : wr.cell? ⟨g, 1, none⟩ = some (.slice A xl.length c) := (blk_cell X5.out 1).trans rfl
 cases gk with
 | zero => exact absurd HA.out (by simp [maskref4_Dec_BitsOf.l0])
 | succ k1 =>
  have H := HA.out
  clear HA
  simp only [maskref4_Dec_BitsOf.l0] at H
  by_cases c1 : (xl.length : Int) > 0
  rotate_left
  · rw [if_neg c1] at H
    have d2 : decide (0 < xl.length) = false := decide_eq_false (by omega)
    obtain rfl := Option.some.inj H
    go_wp2
    go_ret
    exact ⟨rfl, HB.out⟩
  rw [if_pos c1] at H
  have d2 : decide (0 < xl.length) = true := decide_eq_true (by omega)
  obtain ⟨⟨q1, q2, q3, q4⟩, hq, H⟩ := Option.bind_eq_some_iff.mp H
  have H' := Aside0.mk (show maskref4_Dec_BitsOf.l0 k1 (wrap64 (x3 + 1)) tn tl q1 q2 = some r from H)
  have HQ0 := Aside0.mk hq
  clear H hq
  have m0 : wr.cell? ⟨g2, 0, none⟩ = some (.bool tn) := (blk_cell X2.out 0).trans rfl
  have m1 : wr.cell? ⟨g2, 1, none⟩ = some (.slice A2 tl.length c2) := (blk_cell X2.out 1).trans rfl
  have LG := Aside0.mk (blk_lt X5.out)
  go_wp2_with fail
  refine (maskref4_Dec_Split.calls k1 xn A c xl tn A2 c2 tl q1 q2 q3 q4 _ (Kd.V_reads' HV.out).2.2 (Kd.V_at HV.out).2.1 (Kd.V_reads' H2.out).2.2 (Kd.V_at H2.out).2.1 HQ0.out).mono ?_
  rintro e w5 ⟨v1, v3, rfl, hV1, hV3, hw⟩
  obtain ⟨A5, c5, rfl⟩ := Kd.V_slice hV1
  obtain ⟨A6, c6, rfl⟩ := Kd.V_slice hV3
  clear p0 p1 m0 m1 HV
  have HQ := Aside0.mk (Kd.V_mono hV1 (ok' := fun k => k ≠ g) (fun k hk => by have := LG.out; omega))
  replace X5 := Aside0.mk (blk_below X5.out hw)
  replace X2 := Aside0.mk (blk_below X2.out hw)
  replace H2 := Aside0.mk (Kd.V_below H2.out hw)
  replace HB := Aside0.mk (below_step HB.out hw)
  clear hV1 hV3 hw
  have p0 : w5.cell? ⟨g, 0, none⟩ = some (.bool xn) := (blk_cell X5.out 0).trans rfl
  have p1 : w5.cell? ⟨g, 1, none⟩ = some (.slice A xl.length c) := (blk_cell X5.out 1).trans rfl
  have y0 := blk_frozen X5.out 0
  have y1 := blk_frozen X5.out 1
  go_upto_region 7 with (fail)
  clear p0 p1 y0 y1
  have hge : w.heap.size ≤ g := Nat.le_trans GE.out GG.out
  have hne : g2 ≠ g := by have := L2.out; have := GG.out; omega
  replace HB := Aside0.mk (below_set (g := g) (j := 1) (v := .slice A5 q2.length c5) (below_set (g := g) (j := 0) (v := .bool q1) HB.out hge) hge)
  replace X5 := Aside0.mk (blk_put (cs := #[.bool q1, .slice A xl.length c]) (cs' := #[.bool q1, .slice A5 q2.length c5]) (blk_put (cs := #[.bool xn, .slice A xl.length c]) (cs' := #[.bool q1, .slice A xl.length c]) X5.out 0 _ rfl) 1 _ rfl)
  replace X2 := Aside0.mk (blk_far (blk_far X2.out (p := ⟨g, 0, none⟩) hne (.bool q1)) (p := ⟨g, 1, none⟩) hne (.slice A5 q2.length c5))
  replace H2 := Aside0.mk (outW H2.out (g := g) (fun k hk => by have := GG.out; omega) (.bool q1) (.slice A5 q2.length c5) (fun k hk => hk))
  replace HQ := Aside0.mk (outW HQ.out (g := g) (fun k hk => hk) (.bool q1) (.slice A5 q2.length c5) (fun k hk => hk))
  generalize (w5.setCell ⟨g, 0, none⟩ (.bool q1)).setCell ⟨g, 1, none⟩ (.slice A5 q2.length c5) = w6 at *
  have p0 : w6.cell? ⟨g, 0, none⟩ = some (.bool q1) := (blk_cell X5.out 0).trans rfl
  have p1 : w6.cell? ⟨g, 1, none⟩ = some (.slice A5 q2.length c5) := (blk_cell X5.out 1).trans rfl
  have LG6 := Aside0.mk (blk_lt X5.out)
  clear hge hne
  go_wp2
  go_roundg k1
  case measure => have := HK.out; omega
  case rel => exact ⟨wrap64 (x3 + 1), w6.heap.size, A5, c5, q1, q2, (by first | rfl | (simp; done) | (simp [*]; done)), rfl, H', ⟨by have := HK.out; omega⟩, ⟨blk_new w6 _⟩, ⟨by have := LG6.out; have := GG.out; omega⟩, ⟨Kd.V_mono (Kd.V_alloc (Kd.V_bound HQ.out) _) (fun k hk => by have := hk.2; omega)⟩, ⟨Kd.V_alloc H2.out _⟩, ⟨blk_alloc X2.out _⟩, ⟨below_alloc HB.out _⟩⟩

end Go.Proofs.Ytlbljdjbcbgnlaa.PX
