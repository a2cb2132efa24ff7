-- PRINTED by print.py (a twelfth state) out of the translation. Not trusted: Lean checks it.
import Derived.Test.YtpkpmdmmnhmnlaaDoorCmp
import Derived.Test.YtpkpmdmmnhmnlaaDoorPTx0
namespace Go.Proofs.YtpkpmdmmnhmnlaaDoor.PT
open Go.RowKit Go.Proofs.YtpkpmdmmnhmnlaaDoorW.PrintWords Go.Proofs.YtpkpmdmmnhmnlaaDoorW.PrintLast Go.Proofs.YtpkpmdmmnhmnlaaDoorW.PrintMore
attribute [local go_sem] max2_int min2_int max_two min_two max_three min_three max_four min_four   -- for this text's walks alone
set_option linter.unusedVariables false
set_option linter.unusedSimpArgs false

/-! ### clocks_At: function 65 -/
def clocks_At.l0 : Nat → ByteArray → List (S112) → Int → Int → Option (Int × Int)
 | 0, _, _, _, _ => none
 | k + 1, x1, x8, x9, x10 => if x10 < x9 then (if 0 ≤ x10 then (if x10 < (x8.length : Int) then (if ((rd_T112 x8 x10).f0).toList = x1.toList then (some ((rd_T112 x8 x10).f1.f0, (rd_T112 x8 x10).f1.f1)) else (clocks_At.l0 k x1 x8 x9 (wrap64 (x10 + 1)))) else (none)) else (none)) else (some (0, 0))
def clocks_At.f (k : Nat) (a0_0 : Int) (l0_1 : List (S112)) (l0_2 : List (S115)) (l0_3 : List (S117)) (a1 : ByteArray) : Option (Int × Int) := clocks_At.l0 k a1 l0_1 (l0_1.length : Int) 0
theorem clocks_At.mono_l : ∀ k, (∀ y0 y1 y2 y3, LeO (clocks_At.l0 k y0 y1 y2 y3) (clocks_At.l0 (k + 1) y0 y1 y2 y3))
 | 0 => fun _ _ _ _ r h => by simp [clocks_At.l0] at h
 | k + 1 => by
  have ih0 := clocks_At.mono_l k
  · intro y0 y1 y2 y3
    unfold clocks_At.l0
    repeat' first
    | (with_reducible exact ih0 _ _ _ _)
    | (with_reducible exact LeO.refl _)
    | (with_reducible exact LeO.none _)
    | (with_reducible refine LeO.ite ?_ ?_)
    | (with_reducible refine LeO.bind ?_ (fun _ => ?_))
theorem clocks_At.mono : ∀ a0 a1 a2 a3 a4 k, LeO (clocks_At.f k a0 a1 a2 a3 a4) (clocks_At.f (k + 1) a0 a1 a2 a3 a4) := by
 intro a0 a1 a2 a3 a4 k
 have ih0 := clocks_At.mono_l k
 unfold clocks_At.f
 repeat' first
  | (with_reducible exact ih0 _ _ _ _)
  | (with_reducible exact LeO.refl _)
  | (with_reducible exact LeO.none _)
  | (with_reducible refine LeO.ite ?_ ?_)
  | (with_reducible refine LeO.bind ?_ (fun _ => ?_))
set_option maxHeartbeats 8000000 in
set_option maxRecDepth 100000 in
theorem clocks_At.calls (k : Nat) (a0_0 : Int) (A0_1 : Option Addr) (c0_1 : Nat) (l0_1 : List (S112)) (A0_2 : Option Addr) (c0_2 : Nat) (l0_2 : List (S115)) (A0_3 : Option Addr) (c0_3 : Nat) (l0_3 : List (S117)) (a1 : ByteArray) (r1 : Int) (r2 : Int) (w : World) (hr0_1 : Kd.C k112 w A0_1 l0_1.length l0_1) (hc0_1 : l0_1.length ≤ c0_1) (hr0_2 : Kd.C k115 w A0_2 l0_2.length l0_2) (hc0_2 : l0_2.length ≤ c0_2) (hr0_3 : Kd.C k117 w A0_3 l0_3.length l0_3) (hc0_3 : l0_3.length ≤ c0_3) (h : clocks_At.f k a0_0 l0_1 l0_2 l0_3 a1 = some (r1, r2)) :
 Calls Tryd.prog 65 #[.agg #[.int .i64 a0_0, .slice A0_1 l0_1.length c0_1, .slice A0_2 l0_2.length c0_2, .slice A0_3 l0_3.length c0_3], .string a1] w fun e w' => e = .returned (.agg #[.int .i64 r1, .int .i64 r2]) ∧ Below w.heap.size w w' := by
 have HR0_1 := Aside0.mk hr0_1
 clear hr0_1 hc0_1
 clear hr0_2 hc0_2
 clear hr0_3 hc0_3
 have HB := Aside0.mk (Below.refl w.heap.size w)
 have H : (clocks_At.l0 k a1 l0_1 (l0_1.length : Int) 0) = some (r1, r2) := h
 clear h
 have H' := Aside0.mk H
 clear H
 go_enter Tryd.func65, Tryd.ntmps65
 go_wp2_with (first | ((with_reducible refine gate_dst (N := 2) rfl ?_); refine box_event ?hg (N := 2) ?hd (cs := #[.int .i64 a0_0, .slice A0_1 l0_1.length c0_1, .slice A0_2 l0_2.length c0_2, .slice A0_3 l0_3.length c0_3]) (t := 72) ?hr ?_; (case hd => rfl); (case hg => rfl); (case hr => first | (go_simp; done) | (go_simp; rfl)); intro gb189 hg w3 hbox hb; have BK189 := Aside0.mk (hbox); replace HB := Aside0.mk (below_step bl hb); clear hb hbox hg) | ((with_reducible refine gate_dst (N := 4) rfl ?_); refine box_event ?hg (N := 4) ?hd (cs := #[.int .i64 0, .int .i64 0]) (t := 63) ?hr ?_; (case hd => rfl); (case hg => rfl); (case hr => first | (go_simp; done) | (go_simp; rfl)); intro gb190 hg w4 hbox hb; have BK190 := Aside0.mk (hbox); have GE190 := Aside0.mk (ge (w := w) hg); replace HB := Aside0.mk (below_step bl hb); have NB189_190 := Aside0.mk (nl hg (bk BK189.out)); have NB190_189 := Aside0.mk (ng hg (bk BK189.out)); replace BK189 := Aside0.mk (bb BK189.out hb); clear hb hbox hg; obtain ⟨hcz6_0, hcz6_1, hcz6_2, hcz6_3, hfz6_0, hfz6_1, hfz6_2, hfz6_3⟩ := bz4 BK189.out))
 go_loopg [10] k (fun kq v10 w' => ∃ (x10_1 : Int) (x191000_1 : Int) (x191001_1 : Int), v10 = .int .i64 x10_1 ∧ Aside0 (clocks_At.l0 kq a1 l0_1 (l0_1.length : Int) x10_1 = some (r1, r2)) ∧ Aside0 (kq ≤ k) ∧ Aside0 (w'.heap[gb189]? = some (.cells #[.int .i64 a0_0, (.slice A0_1 l0_1.length c0_1), (.slice A0_2 l0_2.length c0_2), (.slice A0_3 l0_3.length c0_3)] 72 (0, 0))) ∧ Aside0 (w'.heap[gb190]? = some (.cells #[.int .i64 x191000_1, .int .i64 x191001_1] 63 (0, 0))) ∧ Aside0 (Below w.heap.size w w'))
 case atStart => exact ⟨(0), (0), (0), (by first | rfl | (simp; done) | (simp [*]; done)), H', ⟨Nat.le_refl _⟩, ⟨bk BK189.out⟩, ⟨bk BK190.out⟩, ⟨bl⟩⟩
 clear H'
 clear hcz6_0 hcz6_1 hcz6_2 hcz6_3 hfz6_0 hfz6_1 hfz6_2 hfz6_3
 obtain ⟨x10_1, x191000_1, x191001_1, rfl, HA, HK1, BK189, BK190, HB⟩ := hrel
 cases gk with
 | zero => exact absurd HA.out (by simp [clocks_At.l0])
 | succ k1 =>
  have H := HA.out
  clear HA
  simp only [clocks_At.l0] at H
  by_cases c7 : x10_1 < (l0_1.length : Int)
  rotate_left
  · rw [if_neg c7] at H
    have c7b0 : decide (x10_1 < (l0_1.length : Int)) = false := decide_eq_false c7
    clear c7
    simp only [Option.some.injEq, Prod.mk.injEq] at H
    obtain ⟨rfl, rfl⟩ := H
    obtain ⟨hcz22_0, hcz22_1, hfz22_0, hfz22_1⟩ := bz2 BK190.out
    go_wp2
    refine bodyPost_ret (results_cell_row rfl _ _ gb190 63 #[.int .i64 0, .int .i64 0] (0, 0) _ rfl (by (with_reducible repeat (first | refine blk_drewN ?_ _ | refine blk_drew ?_ | refine blk_alloc ?_ _)); refine blk_put (cs := #[.int .i64 0, .int .i64 x191001_1]) ?_ 1 _ rfl; (with_reducible repeat (first | refine blk_drewN ?_ _ | refine blk_drew ?_ | refine blk_alloc ?_ _)); refine blk_put (cs := #[.int .i64 x191000_1, .int .i64 x191001_1]) ?_ 0 _ rfl; (with_reducible repeat (first | refine blk_drewN ?_ _ | refine blk_drew ?_ | refine blk_alloc ?_ _)); exact BK190.out) Tryd.underlying63 rfl (by kernel_rfl)) rfl ?_
    exact ⟨by first | rfl | (simp [errW_none, errW_some] <;> rfl) | (simp [*, errW_none, errW_some] <;> rfl), bl⟩
  rw [if_pos c7] at H
  have c7b0 : decide (x10_1 < (l0_1.length : Int)) = true := decide_eq_true c7
  clear c7
  by_cases c8 : 0 ≤ x10_1
  rotate_left
  · rw [if_neg c8] at H
    exact absurd H (by simp)
  rw [if_pos c8] at H
  have c8b0 : decide (0 ≤ x10_1) = true := decide_eq_true c8
  clear c8
  by_cases c9 : x10_1 < (l0_1.length : Int)
  rotate_left
  · rw [if_neg c9] at H
    exact absurd H (by simp)
  rw [if_pos c9] at H
  have c9b0 : decide (x10_1 < (l0_1.length : Int)) = true := decide_eq_true c9
  clear c9
  by_cases c10 : ((rd_T112 l0_1 x10_1).f0).toList = a1.toList
  · rw [if_pos c10] at H
    have c10b0 : (((rd_T112 l0_1 x10_1).f0).toList == a1.toList) = true := beq_iff_eq.mpr c10
    clear c10
    simp only [Option.some.injEq, Prod.mk.injEq] at H
    obtain ⟨rfl, rfl⟩ := H
    have p191 : 0 ≤ (x10_1 : Int) := of_decide_eq_true (by first | (with_reducible assumption) | assumption)
    have q191 : x10_1 < (l0_1.length : Int) := of_decide_eq_true (by first | (with_reducible assumption) | assumption)
    obtain ⟨ad191, e191, hx191_0, hx191_1, hx191_2⟩ := at_T112 HR0_1.out x10_1 p191 q191
    cases e191
    replace hx191_0 := hc HB.out hx191_0
    replace hx191_1 := hc HB.out hx191_1
    replace hx191_2 := hc HB.out hx191_2
    replace p191 := eq_true p191
    replace q191 := eq_true q191
    go_wp2_with ((with_reducible refine gate_dst (N := 6) rfl ?_); refine box_event ?hg (N := 6) ?hd (cs := #[.string (⟨#[]⟩ : ByteArray), .int .i64 0, .int .i64 0]) (t := 112) ?hr ?_; (case hd => rfl); (case hg => rfl); (case hr => first | (go_simp; done) | (go_simp; rfl)); intro gb192 hg w11 hbox hb; have BK192 := Aside0.mk (hbox); have GE192 := Aside0.mk (ge (w := w) hg); replace HB := Aside0.mk (below_step bl hb); have NB189_192 := Aside0.mk (nl hg (bk BK189.out)); have NB192_189 := Aside0.mk (ng hg (bk BK189.out)); replace BK189 := Aside0.mk (bb BK189.out hb); have NB190_192 := Aside0.mk (nl hg (bk BK190.out)); have NB192_190 := Aside0.mk (ng hg (bk BK190.out)); replace BK190 := Aside0.mk (bb BK190.out hb); clear hb hbox hg; have hnc13 := NB190_192.out; obtain ⟨hcz14_0, hcz14_1, hcz14_2, hfz14_0, hfz14_1, hfz14_2⟩ := bz3 BK192.out; have hnb15 := NB190_189.out; have hnc15 := NB189_190.out; obtain ⟨hcz16_0, hcz16_1, hfz16_0, hfz16_1⟩ := bz2 BK190.out)
    refine bodyPost_ret (results_cell_row rfl _ _ gb190 63 #[.int .i64 ((rd_T112 l0_1 x10_1).f1.f0), .int .i64 ((rd_T112 l0_1 x10_1).f1.f1)] (0, 0) _ rfl (by (with_reducible repeat (first | refine blk_drewN ?_ _ | refine blk_drew ?_ | refine blk_alloc ?_ _)); refine blk_put (cs := #[.int .i64 ((rd_T112 l0_1 x10_1).f1.f0), .int .i64 x191001_1]) ?_ 1 _ rfl; (with_reducible repeat (first | refine blk_drewN ?_ _ | refine blk_drew ?_ | refine blk_alloc ?_ _)); refine blk_put (cs := #[.int .i64 x191000_1, .int .i64 x191001_1]) ?_ 0 _ rfl; (with_reducible repeat (first | refine blk_drewN ?_ _ | refine blk_drew ?_ | refine blk_alloc ?_ _)); refine blk_far ?_ NB190_192.out _; (with_reducible repeat (first | refine blk_drewN ?_ _ | refine blk_drew ?_ | refine blk_alloc ?_ _)); refine blk_far ?_ NB190_192.out _; (with_reducible repeat (first | refine blk_drewN ?_ _ | refine blk_drew ?_ | refine blk_alloc ?_ _)); refine blk_far ?_ NB190_192.out _; (with_reducible repeat (first | refine blk_drewN ?_ _ | refine blk_drew ?_ | refine blk_alloc ?_ _)); exact BK190.out) Tryd.underlying63 rfl (by kernel_rfl)) rfl ?_
    exact ⟨by first | rfl | (simp [errW_none, errW_some] <;> rfl) | (simp [*, errW_none, errW_some] <;> rfl), bl⟩
  rw [if_neg c10] at H
  have c10b0 : (((rd_T112 l0_1 x10_1).f0).toList == a1.toList) = false := beq_eq_false_iff_ne.mpr c10
  have H' := Aside0.mk H
  clear H
  have p191 : 0 ≤ (x10_1 : Int) := of_decide_eq_true (by first | (with_reducible assumption) | assumption)
  have q191 : x10_1 < (l0_1.length : Int) := of_decide_eq_true (by first | (with_reducible assumption) | assumption)
  obtain ⟨ad191, e191, hx191_0, hx191_1, hx191_2⟩ := at_T112 HR0_1.out x10_1 p191 q191
  cases e191
  replace hx191_0 := hc HB.out hx191_0
  replace hx191_1 := hc HB.out hx191_1
  replace hx191_2 := hc HB.out hx191_2
  replace p191 := eq_true p191
  replace q191 := eq_true q191
  go_wp2_with ((with_reducible refine gate_dst (N := 6) rfl ?_); refine box_event ?hg (N := 6) ?hd (cs := #[.string (⟨#[]⟩ : ByteArray), .int .i64 0, .int .i64 0]) (t := 112) ?hr ?_; (case hd => rfl); (case hg => rfl); (case hr => first | (go_simp; done) | (go_simp; rfl)); intro gb192 hg w17 hbox hb; have BK192 := Aside0.mk (hbox); have GE192 := Aside0.mk (ge (w := w) hg); replace HB := Aside0.mk (below_step bl hb); have NB189_192 := Aside0.mk (nl hg (bk BK189.out)); have NB192_189 := Aside0.mk (ng hg (bk BK189.out)); replace BK189 := Aside0.mk (bb BK189.out hb); have NB190_192 := Aside0.mk (nl hg (bk BK190.out)); have NB192_190 := Aside0.mk (ng hg (bk BK190.out)); replace BK190 := Aside0.mk (bb BK190.out hb); clear hb hbox hg; obtain ⟨hcz20_0, hcz20_1, hcz20_2, hfz20_0, hfz20_1, hfz20_2⟩ := bz3 BK192.out)
  go_roundg k1
  case measure => have := HK1.out; omega
  case rel => exact ⟨(wrap64 (x10_1 + 1)), (x191000_1), (x191001_1), (by first | rfl | (simp; done) | (simp [*]; done)), H', ⟨by have := HK1.out; omega⟩, ⟨bf BK189.out⟩, ⟨bf BK190.out⟩, ⟨bl⟩⟩

end Go.Proofs.YtpkpmdmmnhmnlaaDoor.PT
namespace Go.Proofs.YtpkpmdmmnhmnlaaDoor.PT
open Go.RowKit Go.Proofs.YtpkpmdmmnhmnlaaDoorW.PrintWords Go.Proofs.YtpkpmdmmnhmnlaaDoorW.PrintLast Go.Proofs.YtpkpmdmmnhmnlaaDoorW.PrintMore
attribute [local go_sem] max2_int min2_int max_two min_two max_three min_three max_four min_four   -- for this text's walks alone
set_option linter.unusedVariables false
set_option linter.unusedSimpArgs false

/-! ### timing_later: function 49 -/
def timing_later.f (a0_0 : Bool) (a0_1 : Int) (a0_2 : Int) (a1_0 : Int) (a1_1 : Int) : Option (Bool × Int × Int) := if a0_0 = true then (some (true, wrap64 (a0_1 + a1_0), wrap64 (a0_2 + a1_1))) else (some (a0_0, a0_1, a0_2))
set_option maxHeartbeats 8000000 in
set_option maxRecDepth 100000 in
theorem timing_later.calls (a0_0 : Bool) (a0_1 : Int) (a0_2 : Int) (a1_0 : Int) (a1_1 : Int) (r1 : Bool) (r2 : Int) (r3 : Int) (w : World) (h : timing_later.f a0_0 a0_1 a0_2 a1_0 a1_1 = some (r1, r2, r3)) :
    Calls Tryd.prog 49 #[.agg #[.bool a0_0, .int .i64 a0_1, .int .i64 a0_2], .agg #[.int .i64 a1_0, .int .i64 a1_1]] w fun e w' => e = .returned (.agg #[.bool r1, .int .i64 r2, .int .i64 r3]) ∧ Below w.heap.size w w' := by
 have HB := Aside0.mk (Below.refl w.heap.size w)
 have H : (if a0_0 = true then (some (true, wrap64 (a0_1 + a1_0), wrap64 (a0_2 + a1_1))) else (some (a0_0, a0_1, a0_2))) = some (r1, r2, r3) := h
 clear h
 by_cases c3 : a0_0 = true
 · subst c3
   have H1 : (some (true, wrap64 (a0_1 + a1_0), wrap64 (a0_2 + a1_1))) = some (r1, r2, r3) := by rw [if_pos rfl] at H; exact H
   clear H
   have H := H1
   clear H1
   simp only [Option.some.injEq, Prod.mk.injEq] at H
   obtain ⟨rfl, rfl, rfl⟩ := H
   go_enter Tryd.func49, Tryd.ntmps49
   go_wp2_with (first | ((with_reducible refine gate_dst (N := 2) rfl ?_); refine box_event ?hg (N := 2) ?hd (cs := #[.bool true, .int .i64 a0_1, .int .i64 a0_2]) (t := 89) ?hr ?_; (case hd => rfl); (case hg => rfl); (case hr => first | (go_simp; done) | (go_simp; rfl)); intro gb205 hg w4 hbox hb; have BK205 := Aside0.mk (hbox); replace HB := Aside0.mk (below_step bl hb); clear hb hbox hg) | ((with_reducible refine gate_dst (N := 3) rfl ?_); refine box_event ?hg (N := 3) ?hd (cs := #[.int .i64 a1_0, .int .i64 a1_1]) (t := 63) ?hr ?_; (case hd => rfl); (case hg => rfl); (case hr => first | (go_simp; done) | (go_simp; rfl)); intro gb206 hg w5 hbox hb; have BK206 := Aside0.mk (hbox); replace HB := Aside0.mk (below_step bl hb); have NB205_206 := Aside0.mk (nl hg (bk BK205.out)); have NB206_205 := Aside0.mk (ng hg (bk BK205.out)); replace BK205 := Aside0.mk (bb BK205.out hb); clear hb hbox hg) | ((with_reducible refine gate_dst (N := 4) rfl ?_); refine box_event ?hg (N := 4) ?hd (cs := #[.bool false, .int .i64 0, .int .i64 0]) (t := 89) ?hr ?_; (case hd => rfl); (case hg => rfl); (case hr => first | (go_simp; done) | (go_simp; rfl)); intro gb207 hg w6 hbox hb; have BK207 := Aside0.mk (hbox); have GE207 := Aside0.mk (ge (w := w) hg); replace HB := Aside0.mk (below_step bl hb); have NB205_207 := Aside0.mk (nl hg (bk BK205.out)); have NB207_205 := Aside0.mk (ng hg (bk BK205.out)); replace BK205 := Aside0.mk (bb BK205.out hb); have NB206_207 := Aside0.mk (nl hg (bk BK206.out)); have NB207_206 := Aside0.mk (ng hg (bk BK206.out)); replace BK206 := Aside0.mk (bb BK206.out hb); clear hb hbox hg; obtain ⟨hcz9_0, hcz9_1, hcz9_2, hfz9_0, hfz9_1, hfz9_2⟩ := bz3 BK205.out; obtain ⟨hcz11_0, hcz11_1, hfz11_0, hfz11_1⟩ := bz2 BK206.out; obtain ⟨hcz12_0, hcz12_1, hcz12_2, hfz12_0, hfz12_1, hfz12_2⟩ := bz3 BK207.out))
   refine bodyPost_ret (results_cell_row rfl _ _ gb207 89 #[.bool true, .int .i64 (wrap64 (a0_1 + a1_0)), .int .i64 (wrap64 (a0_2 + a1_1))] (0, 0) _ rfl (by (with_reducible repeat (first | refine blk_drewN ?_ _ | refine blk_drew ?_ | refine blk_alloc ?_ _)); refine blk_put (cs := #[.bool true, .int .i64 (wrap64 (a0_1 + a1_0)), .int .i64 0]) ?_ 2 _ rfl; (with_reducible repeat (first | refine blk_drewN ?_ _ | refine blk_drew ?_ | refine blk_alloc ?_ _)); refine blk_put (cs := #[.bool true, .int .i64 0, .int .i64 0]) ?_ 1 _ rfl; (with_reducible repeat (first | refine blk_drewN ?_ _ | refine blk_drew ?_ | refine blk_alloc ?_ _)); refine blk_put (cs := #[.bool false, .int .i64 0, .int .i64 0]) ?_ 0 _ rfl; (with_reducible repeat (first | refine blk_drewN ?_ _ | refine blk_drew ?_ | refine blk_alloc ?_ _)); exact BK207.out) Tryd.underlying89 rfl (by kernel_rfl)) rfl ?_
   exact ⟨by first | rfl | (simp [errW_none, errW_some] <;> rfl) | (simp [*, errW_none, errW_some] <;> rfl), bl⟩
 replace c3 := Bool.eq_false_iff.mpr c3
 subst c3
 have H1 : (some (false, a0_1, a0_2)) = some (r1, r2, r3) := by rw [if_neg (show ¬ (false = true) by decide)] at H; exact H
 clear H
 have H := H1
 clear H1
 simp only [Option.some.injEq, Prod.mk.injEq] at H
 obtain ⟨rfl, rfl, rfl⟩ := H
 go_enter Tryd.func49, Tryd.ntmps49
 go_wp2_with (first | ((with_reducible refine gate_dst (N := 2) rfl ?_); refine box_event ?hg (N := 2) ?hd (cs := #[.bool false, .int .i64 a0_1, .int .i64 a0_2]) (t := 89) ?hr ?_; (case hd => rfl); (case hg => rfl); (case hr => first | (go_simp; done) | (go_simp; rfl)); intro gb205 hg w13 hbox hb; have BK205 := Aside0.mk (hbox); replace HB := Aside0.mk (below_step bl hb); clear hb hbox hg) | ((with_reducible refine gate_dst (N := 3) rfl ?_); refine box_event ?hg (N := 3) ?hd (cs := #[.int .i64 a1_0, .int .i64 a1_1]) (t := 63) ?hr ?_; (case hd => rfl); (case hg => rfl); (case hr => first | (go_simp; done) | (go_simp; rfl)); intro gb206 hg w14 hbox hb; have BK206 := Aside0.mk (hbox); replace HB := Aside0.mk (below_step bl hb); have NB205_206 := Aside0.mk (nl hg (bk BK205.out)); have NB206_205 := Aside0.mk (ng hg (bk BK205.out)); replace BK205 := Aside0.mk (bb BK205.out hb); clear hb hbox hg) | ((with_reducible refine gate_dst (N := 4) rfl ?_); refine box_event ?hg (N := 4) ?hd (cs := #[.bool false, .int .i64 0, .int .i64 0]) (t := 89) ?hr ?_; (case hd => rfl); (case hg => rfl); (case hr => first | (go_simp; done) | (go_simp; rfl)); intro gb207 hg w15 hbox hb; have BK207 := Aside0.mk (hbox); have GE207 := Aside0.mk (ge (w := w) hg); replace HB := Aside0.mk (below_step bl hb); have NB205_207 := Aside0.mk (nl hg (bk BK205.out)); have NB207_205 := Aside0.mk (ng hg (bk BK205.out)); replace BK205 := Aside0.mk (bb BK205.out hb); have NB206_207 := Aside0.mk (nl hg (bk BK206.out)); have NB207_206 := Aside0.mk (ng hg (bk BK206.out)); replace BK206 := Aside0.mk (bb BK206.out hb); clear hb hbox hg; obtain ⟨hcz18_0, hcz18_1, hcz18_2, hfz18_0, hfz18_1, hfz18_2⟩ := bz3 BK205.out; obtain ⟨hcz20_0, hcz20_1, hcz20_2, hfz20_0, hfz20_1, hfz20_2⟩ := bz3 BK207.out))
 refine bodyPost_ret (results_cell_row rfl _ _ gb207 89 #[.bool false, .int .i64 a0_1, .int .i64 a0_2] (0, 0) _ rfl (by (with_reducible repeat (first | refine blk_drewN ?_ _ | refine blk_drew ?_ | refine blk_alloc ?_ _)); refine blk_put (cs := #[.bool false, .int .i64 a0_1, .int .i64 0]) ?_ 2 _ rfl; (with_reducible repeat (first | refine blk_drewN ?_ _ | refine blk_drew ?_ | refine blk_alloc ?_ _)); refine blk_put (cs := #[.bool false, .int .i64 0, .int .i64 0]) ?_ 1 _ rfl; (with_reducible repeat (first | refine blk_drewN ?_ _ | refine blk_drew ?_ | refine blk_alloc ?_ _)); refine blk_put (cs := #[.bool false, .int .i64 0, .int .i64 0]) ?_ 0 _ rfl; (with_reducible repeat (first | refine blk_drewN ?_ _ | refine blk_drew ?_ | refine blk_alloc ?_ _)); exact BK207.out) Tryd.underlying89 rfl (by kernel_rfl)) rfl ?_
 exact ⟨by first | rfl | (simp [errW_none, errW_some] <;> rfl) | (simp [*, errW_none, errW_some] <;> rfl), bl⟩

end Go.Proofs.YtpkpmdmmnhmnlaaDoor.PT
namespace Go.Proofs.YtpkpmdmmnhmnlaaDoor.PT
open Go.RowKit Go.Proofs.YtpkpmdmmnhmnlaaDoorW.PrintWords Go.Proofs.YtpkpmdmmnhmnlaaDoorW.PrintLast Go.Proofs.YtpkpmdmmnhmnlaaDoorW.PrintMore
attribute [local go_sem] max2_int min2_int max_two min_two max_three min_three max_four min_four   -- for this text's walks alone
set_option linter.unusedVariables false
set_option linter.unusedSimpArgs false

/-! ### clocks_Cycles: function 50 -/
def clocks_Cycles.l0 : Nat → ByteArray → ByteArray → List (S117) → Int → Int → Option (Int)
 | 0, _, _, _, _, _ => none
 | k + 1, x1, x2, x10, x11, x12 => if x12 < x11 then (if 0 ≤ x12 then (if x12 < (x10.length : Int) then (if ((rd_T117 x10 x12).f0).toList = ([] : List UInt8) then (if ((rd_T117 x10 x12).f1).toList = ([] : List UInt8) then (some ((rd_T117 x10 x12).f2)) else (if ((rd_T117 x10 x12).f1).toList = x2.toList then (some ((rd_T117 x10 x12).f2)) else (clocks_Cycles.l0 k x1 x2 x10 x11 (wrap64 (x12 + 1))))) else (if ((rd_T117 x10 x12).f0).toList = x1.toList then (if ((rd_T117 x10 x12).f1).toList = ([] : List UInt8) then (some ((rd_T117 x10 x12).f2)) else (if ((rd_T117 x10 x12).f1).toList = x2.toList then (some ((rd_T117 x10 x12).f2)) else (clocks_Cycles.l0 k x1 x2 x10 x11 (wrap64 (x12 + 1))))) else (clocks_Cycles.l0 k x1 x2 x10 x11 (wrap64 (x12 + 1))))) else (none)) else (none)) else (some 1)
def clocks_Cycles.f (k : Nat) (a0_0 : Int) (l0_1 : List (S112)) (l0_2 : List (S115)) (l0_3 : List (S117)) (a1 : ByteArray) (a2 : ByteArray) : Option (Int) := clocks_Cycles.l0 k a1 a2 l0_3 (l0_3.length : Int) 0
theorem clocks_Cycles.mono_l : ∀ k, (∀ y0 y1 y2 y3 y4, LeO (clocks_Cycles.l0 k y0 y1 y2 y3 y4) (clocks_Cycles.l0 (k + 1) y0 y1 y2 y3 y4))
 | 0 => fun _ _ _ _ _ r h => by simp [clocks_Cycles.l0] at h
 | k + 1 => by
  have ih0 := clocks_Cycles.mono_l k
  · intro y0 y1 y2 y3 y4
    unfold clocks_Cycles.l0
    repeat' first
    | (with_reducible exact ih0 _ _ _ _ _)
    | (with_reducible exact LeO.refl _)
    | (with_reducible exact LeO.none _)
    | (with_reducible refine LeO.ite ?_ ?_)
    | (with_reducible refine LeO.bind ?_ (fun _ => ?_))
theorem clocks_Cycles.mono : ∀ a0 a1 a2 a3 a4 a5 k, LeO (clocks_Cycles.f k a0 a1 a2 a3 a4 a5) (clocks_Cycles.f (k + 1) a0 a1 a2 a3 a4 a5) := by
 intro a0 a1 a2 a3 a4 a5 k
 have ih0 := clocks_Cycles.mono_l k
 unfold clocks_Cycles.f
 repeat' first
  | (with_reducible exact ih0 _ _ _ _ _)
  | (with_reducible exact LeO.refl _)
  | (with_reducible exact LeO.none _)
  | (with_reducible refine LeO.ite ?_ ?_)
  | (with_reducible refine LeO.bind ?_ (fun _ => ?_))
set_option maxHeartbeats 8000000 in
set_option maxRecDepth 100000 in
theorem clocks_Cycles.calls (k : Nat) (a0_0 : Int) (A0_1 : Option Addr) (c0_1 : Nat) (l0_1 : List (S112)) (A0_2 : Option Addr) (c0_2 : Nat) (l0_2 : List (S115)) (A0_3 : Option Addr) (c0_3 : Nat) (l0_3 : List (S117)) (a1 : ByteArray) (a2 : ByteArray) (r : Int) (w : World) (hr0_1 : Kd.C k112 w A0_1 l0_1.length l0_1) (hc0_1 : l0_1.length ≤ c0_1) (hr0_2 : Kd.C k115 w A0_2 l0_2.length l0_2) (hc0_2 : l0_2.length ≤ c0_2) (hr0_3 : Kd.C k117 w A0_3 l0_3.length l0_3) (hc0_3 : l0_3.length ≤ c0_3) (h : clocks_Cycles.f k a0_0 l0_1 l0_2 l0_3 a1 a2 = some r) :
 Calls Tryd.prog 50 #[.agg #[.int .i64 a0_0, .slice A0_1 l0_1.length c0_1, .slice A0_2 l0_2.length c0_2, .slice A0_3 l0_3.length c0_3], .string a1, .string a2] w fun e w' => e = .returned (.int .i64 r) ∧ Below w.heap.size w w' := by
 clear hr0_1 hc0_1
 clear hr0_2 hc0_2
 have HR0_3 := Aside0.mk hr0_3
 clear hr0_3 hc0_3
 have HB := Aside0.mk (Below.refl w.heap.size w)
 have H : (clocks_Cycles.l0 k a1 a2 l0_3 (l0_3.length : Int) 0) = some r := h
 clear h
 have H' := Aside0.mk H
 clear H
 go_enter Tryd.func50, Tryd.ntmps50
 go_wp2_with ((with_reducible refine gate_dst (N := 3) rfl ?_); refine box_event ?hg (N := 3) ?hd (cs := #[.int .i64 a0_0, .slice A0_1 l0_1.length c0_1, .slice A0_2 l0_2.length c0_2, .slice A0_3 l0_3.length c0_3]) (t := 72) ?hr ?_; (case hd => rfl); (case hg => rfl); (case hr => first | (go_simp; done) | (go_simp; rfl)); intro gb233 hg w4 hbox hb; have BK233 := Aside0.mk (hbox); replace HB := Aside0.mk (below_step bl hb); clear hb hbox hg; obtain ⟨hcz5_0, hcz5_1, hcz5_2, hcz5_3, hfz5_0, hfz5_1, hfz5_2, hfz5_3⟩ := bz4 BK233.out)
 go_loopg [12] k (fun kq v12 w' => ∃ (x12_1 : Int), v12 = .int .i64 x12_1 ∧ Aside0 (clocks_Cycles.l0 kq a1 a2 l0_3 (l0_3.length : Int) x12_1 = some r) ∧ Aside0 (kq ≤ k) ∧ Aside0 (w'.heap[gb233]? = some (.cells #[.int .i64 a0_0, (.slice A0_1 l0_1.length c0_1), (.slice A0_2 l0_2.length c0_2), (.slice A0_3 l0_3.length c0_3)] 72 (0, 0))) ∧ Aside0 (Below w.heap.size w w'))
 case atStart => exact ⟨(0), (by first | rfl | (simp; done) | (simp [*]; done)), H', ⟨Nat.le_refl _⟩, ⟨bk BK233.out⟩, ⟨bl⟩⟩
 clear H'
 clear hcz5_0 hcz5_1 hcz5_2 hcz5_3 hfz5_0 hfz5_1 hfz5_2 hfz5_3
 obtain ⟨x12_1, rfl, HA, HK1, BK233, HB⟩ := hrel
 cases gk with
 | zero => exact absurd HA.out (by simp [clocks_Cycles.l0])
 | succ k1 =>
  have H := HA.out
  clear HA
  simp only [clocks_Cycles.l0] at H
  by_cases c6 : x12_1 < (l0_3.length : Int)
  rotate_left
  · rw [if_neg c6] at H
    have c6b0 : decide (x12_1 < (l0_3.length : Int)) = false := decide_eq_false c6
    clear c6
    obtain rfl := Option.some.inj H
    go_wp2
    go_ret
    exact ⟨by first | rfl | (simp [errW_none, errW_some] <;> rfl) | (simp [*, errW_none, errW_some] <;> rfl), bl⟩
  rw [if_pos c6] at H
  have c6b0 : decide (x12_1 < (l0_3.length : Int)) = true := decide_eq_true c6
  clear c6
  by_cases c7 : 0 ≤ x12_1
  rotate_left
  · rw [if_neg c7] at H
    exact absurd H (by simp)
  rw [if_pos c7] at H
  have c7b0 : decide (0 ≤ x12_1) = true := decide_eq_true c7
  clear c7
  by_cases c8 : x12_1 < (l0_3.length : Int)
  rotate_left
  · rw [if_neg c8] at H
    exact absurd H (by simp)
  rw [if_pos c8] at H
  have c8b0 : decide (x12_1 < (l0_3.length : Int)) = true := decide_eq_true c8
  clear c8
  by_cases c9 : ((rd_T117 l0_3 x12_1).f0).toList = ([] : List UInt8)
  · rw [if_pos c9] at H
    have c9b0 : (((rd_T117 l0_3 x12_1).f0).toList == ([] : List UInt8)) = true := beq_iff_eq.mpr c9
    have c9b1 : (((rd_T117 l0_3 x12_1).f0).toList != ([] : List UInt8)) = false := bne_eq_false_iff_eq.mpr c9
    clear c9
    by_cases c10 : ((rd_T117 l0_3 x12_1).f1).toList = ([] : List UInt8)
    · rw [if_pos c10] at H
      have c10b0 : (((rd_T117 l0_3 x12_1).f1).toList == ([] : List UInt8)) = true := beq_iff_eq.mpr c10
      clear c10
      obtain rfl := Option.some.inj H
      have p234 : 0 ≤ (x12_1 : Int) := of_decide_eq_true (by first | (with_reducible assumption) | assumption)
      have q234 : x12_1 < (l0_3.length : Int) := of_decide_eq_true (by first | (with_reducible assumption) | assumption)
      obtain ⟨ad234, e234, hx234_0, hx234_1, hx234_2⟩ := at_T117 HR0_3.out x12_1 p234 q234
      cases e234
      replace hx234_0 := hc HB.out hx234_0
      replace hx234_1 := hc HB.out hx234_1
      replace hx234_2 := hc HB.out hx234_2
      replace p234 := eq_true p234
      replace q234 := eq_true q234
      go_wp2_with ((with_reducible refine gate_dst (N := 8) rfl ?_); refine box_event ?hg (N := 8) ?hd (cs := #[.string (⟨#[]⟩ : ByteArray), .string (⟨#[]⟩ : ByteArray), .int .i64 0]) (t := 117) ?hr ?_; (case hd => rfl); (case hg => rfl); (case hr => first | (go_simp; done) | (go_simp; rfl)); intro gb235 hg w11 hbox hb; have BK235 := Aside0.mk (hbox); have GE235 := Aside0.mk (ge (w := w) hg); replace HB := Aside0.mk (below_step bl hb); have NB233_235 := Aside0.mk (nl hg (bk BK233.out)); have NB235_233 := Aside0.mk (ng hg (bk BK233.out)); replace BK233 := Aside0.mk (bb BK233.out hb); clear hb hbox hg; obtain ⟨hcz13_0, hcz13_1, hcz13_2, hfz13_0, hfz13_1, hfz13_2⟩ := bz3 BK235.out)
      go_ret
      exact ⟨by first | rfl | (simp [errW_none, errW_some] <;> rfl) | (simp [*, errW_none, errW_some] <;> rfl), bl⟩
    rw [if_neg c10] at H
    have c10b0 : (((rd_T117 l0_3 x12_1).f1).toList == ([] : List UInt8)) = false := beq_eq_false_iff_ne.mpr c10
    have c10b1 : (((rd_T117 l0_3 x12_1).f1).toList != ([] : List UInt8)) = true := bne_iff_ne.mpr c10
    by_cases c14 : ((rd_T117 l0_3 x12_1).f1).toList = a2.toList
    · rw [if_pos c14] at H
      have c14b0 : (((rd_T117 l0_3 x12_1).f1).toList == a2.toList) = true := beq_iff_eq.mpr c14
      clear c14
      obtain rfl := Option.some.inj H
      have p234 : 0 ≤ (x12_1 : Int) := of_decide_eq_true (by first | (with_reducible assumption) | assumption)
      have q234 : x12_1 < (l0_3.length : Int) := of_decide_eq_true (by first | (with_reducible assumption) | assumption)
      obtain ⟨ad234, e234, hx234_0, hx234_1, hx234_2⟩ := at_T117 HR0_3.out x12_1 p234 q234
      cases e234
      replace hx234_0 := hc HB.out hx234_0
      replace hx234_1 := hc HB.out hx234_1
      replace hx234_2 := hc HB.out hx234_2
      replace p234 := eq_true p234
      replace q234 := eq_true q234
      go_wp2_with ((with_reducible refine gate_dst (N := 8) rfl ?_); refine box_event ?hg (N := 8) ?hd (cs := #[.string (⟨#[]⟩ : ByteArray), .string (⟨#[]⟩ : ByteArray), .int .i64 0]) (t := 117) ?hr ?_; (case hd => rfl); (case hg => rfl); (case hr => first | (go_simp; done) | (go_simp; rfl)); intro gb235 hg w15 hbox hb; have BK235 := Aside0.mk (hbox); have GE235 := Aside0.mk (ge (w := w) hg); replace HB := Aside0.mk (below_step bl hb); have NB233_235 := Aside0.mk (nl hg (bk BK233.out)); have NB235_233 := Aside0.mk (ng hg (bk BK233.out)); replace BK233 := Aside0.mk (bb BK233.out hb); clear hb hbox hg; obtain ⟨hcz17_0, hcz17_1, hcz17_2, hfz17_0, hfz17_1, hfz17_2⟩ := bz3 BK235.out)
      go_ret
      exact ⟨by first | rfl | (simp [errW_none, errW_some] <;> rfl) | (simp [*, errW_none, errW_some] <;> rfl), bl⟩
    rw [if_neg c14] at H
    have c14b0 : (((rd_T117 l0_3 x12_1).f1).toList == a2.toList) = false := beq_eq_false_iff_ne.mpr c14
    have H' := Aside0.mk H
    clear H
    have p234 : 0 ≤ (x12_1 : Int) := of_decide_eq_true (by first | (with_reducible assumption) | assumption)
    have q234 : x12_1 < (l0_3.length : Int) := of_decide_eq_true (by first | (with_reducible assumption) | assumption)
    obtain ⟨ad234, e234, hx234_0, hx234_1, hx234_2⟩ := at_T117 HR0_3.out x12_1 p234 q234
    cases e234
    replace hx234_0 := hc HB.out hx234_0
    replace hx234_1 := hc HB.out hx234_1
    replace hx234_2 := hc HB.out hx234_2
    replace p234 := eq_true p234
    replace q234 := eq_true q234
    go_wp2_with ((with_reducible refine gate_dst (N := 8) rfl ?_); refine box_event ?hg (N := 8) ?hd (cs := #[.string (⟨#[]⟩ : ByteArray), .string (⟨#[]⟩ : ByteArray), .int .i64 0]) (t := 117) ?hr ?_; (case hd => rfl); (case hg => rfl); (case hr => first | (go_simp; done) | (go_simp; rfl)); intro gb235 hg w18 hbox hb; have BK235 := Aside0.mk (hbox); have GE235 := Aside0.mk (ge (w := w) hg); replace HB := Aside0.mk (below_step bl hb); have NB233_235 := Aside0.mk (nl hg (bk BK233.out)); have NB235_233 := Aside0.mk (ng hg (bk BK233.out)); replace BK233 := Aside0.mk (bb BK233.out hb); clear hb hbox hg; obtain ⟨hcz20_0, hcz20_1, hcz20_2, hfz20_0, hfz20_1, hfz20_2⟩ := bz3 BK235.out)
    go_roundg k1
    case measure => have := HK1.out; omega
    case rel => exact ⟨(wrap64 (x12_1 + 1)), (by first | rfl | (simp; done) | (simp [*]; done)), H', ⟨by have := HK1.out; omega⟩, ⟨bf BK233.out⟩, ⟨bl⟩⟩
  rw [if_neg c9] at H
  have c9b0 : (((rd_T117 l0_3 x12_1).f0).toList == ([] : List UInt8)) = false := beq_eq_false_iff_ne.mpr c9
  have c9b1 : (((rd_T117 l0_3 x12_1).f0).toList != ([] : List UInt8)) = true := bne_iff_ne.mpr c9
  by_cases c21 : ((rd_T117 l0_3 x12_1).f0).toList = a1.toList
  rotate_left
  · rw [if_neg c21] at H
    have c21b0 : (((rd_T117 l0_3 x12_1).f0).toList == a1.toList) = false := beq_eq_false_iff_ne.mpr c21
    have H' := Aside0.mk H
    clear H
    have p234 : 0 ≤ (x12_1 : Int) := of_decide_eq_true (by first | (with_reducible assumption) | assumption)
    have q234 : x12_1 < (l0_3.length : Int) := of_decide_eq_true (by first | (with_reducible assumption) | assumption)
    obtain ⟨ad234, e234, hx234_0, hx234_1, hx234_2⟩ := at_T117 HR0_3.out x12_1 p234 q234
    cases e234
    replace hx234_0 := hc HB.out hx234_0
    replace hx234_1 := hc HB.out hx234_1
    replace hx234_2 := hc HB.out hx234_2
    replace p234 := eq_true p234
    replace q234 := eq_true q234
    go_wp2_with ((with_reducible refine gate_dst (N := 8) rfl ?_); refine box_event ?hg (N := 8) ?hd (cs := #[.string (⟨#[]⟩ : ByteArray), .string (⟨#[]⟩ : ByteArray), .int .i64 0]) (t := 117) ?hr ?_; (case hd => rfl); (case hg => rfl); (case hr => first | (go_simp; done) | (go_simp; rfl)); intro gb235 hg w33 hbox hb; have BK235 := Aside0.mk (hbox); have GE235 := Aside0.mk (ge (w := w) hg); replace HB := Aside0.mk (below_step bl hb); have NB233_235 := Aside0.mk (nl hg (bk BK233.out)); have NB235_233 := Aside0.mk (ng hg (bk BK233.out)); replace BK233 := Aside0.mk (bb BK233.out hb); clear hb hbox hg; obtain ⟨hcz35_0, hcz35_1, hcz35_2, hfz35_0, hfz35_1, hfz35_2⟩ := bz3 BK235.out)
    go_roundg k1
    case measure => have := HK1.out; omega
    case rel => exact ⟨(wrap64 (x12_1 + 1)), (by first | rfl | (simp; done) | (simp [*]; done)), H', ⟨by have := HK1.out; omega⟩, ⟨bf BK233.out⟩, ⟨bl⟩⟩
  rw [if_pos c21] at H
  have c21b0 : (((rd_T117 l0_3 x12_1).f0).toList == a1.toList) = true := beq_iff_eq.mpr c21
  have c21b1 : (((rd_T117 l0_3 x12_1).f0).toList != a1.toList) = false := bne_eq_false_iff_eq.mpr c21
  clear c21
  by_cases c22 : ((rd_T117 l0_3 x12_1).f1).toList = ([] : List UInt8)
  · rw [if_pos c22] at H
    have c22b0 : (((rd_T117 l0_3 x12_1).f1).toList == ([] : List UInt8)) = true := beq_iff_eq.mpr c22
    clear c22
    obtain rfl := Option.some.inj H
    have p234 : 0 ≤ (x12_1 : Int) := of_decide_eq_true (by first | (with_reducible assumption) | assumption)
    have q234 : x12_1 < (l0_3.length : Int) := of_decide_eq_true (by first | (with_reducible assumption) | assumption)
    obtain ⟨ad234, e234, hx234_0, hx234_1, hx234_2⟩ := at_T117 HR0_3.out x12_1 p234 q234
    cases e234
    replace hx234_0 := hc HB.out hx234_0
    replace hx234_1 := hc HB.out hx234_1
    replace hx234_2 := hc HB.out hx234_2
    replace p234 := eq_true p234
    replace q234 := eq_true q234
    go_wp2_with ((with_reducible refine gate_dst (N := 8) rfl ?_); refine box_event ?hg (N := 8) ?hd (cs := #[.string (⟨#[]⟩ : ByteArray), .string (⟨#[]⟩ : ByteArray), .int .i64 0]) (t := 117) ?hr ?_; (case hd => rfl); (case hg => rfl); (case hr => first | (go_simp; done) | (go_simp; rfl)); intro gb235 hg w23 hbox hb; have BK235 := Aside0.mk (hbox); have GE235 := Aside0.mk (ge (w := w) hg); replace HB := Aside0.mk (below_step bl hb); have NB233_235 := Aside0.mk (nl hg (bk BK233.out)); have NB235_233 := Aside0.mk (ng hg (bk BK233.out)); replace BK233 := Aside0.mk (bb BK233.out hb); clear hb hbox hg; obtain ⟨hcz25_0, hcz25_1, hcz25_2, hfz25_0, hfz25_1, hfz25_2⟩ := bz3 BK235.out)
    go_ret
    exact ⟨by first | rfl | (simp [errW_none, errW_some] <;> rfl) | (simp [*, errW_none, errW_some] <;> rfl), bl⟩
  rw [if_neg c22] at H
  have c22b0 : (((rd_T117 l0_3 x12_1).f1).toList == ([] : List UInt8)) = false := beq_eq_false_iff_ne.mpr c22
  have c22b1 : (((rd_T117 l0_3 x12_1).f1).toList != ([] : List UInt8)) = true := bne_iff_ne.mpr c22
  by_cases c26 : ((rd_T117 l0_3 x12_1).f1).toList = a2.toList
  · rw [if_pos c26] at H
    have c26b0 : (((rd_T117 l0_3 x12_1).f1).toList == a2.toList) = true := beq_iff_eq.mpr c26
    clear c26
    obtain rfl := Option.some.inj H
    have p234 : 0 ≤ (x12_1 : Int) := of_decide_eq_true (by first | (with_reducible assumption) | assumption)
    have q234 : x12_1 < (l0_3.length : Int) := of_decide_eq_true (by first | (with_reducible assumption) | assumption)
    obtain ⟨ad234, e234, hx234_0, hx234_1, hx234_2⟩ := at_T117 HR0_3.out x12_1 p234 q234
    cases e234
    replace hx234_0 := hc HB.out hx234_0
    replace hx234_1 := hc HB.out hx234_1
    replace hx234_2 := hc HB.out hx234_2
    replace p234 := eq_true p234
    replace q234 := eq_true q234
    go_wp2_with ((with_reducible refine gate_dst (N := 8) rfl ?_); refine box_event ?hg (N := 8) ?hd (cs := #[.string (⟨#[]⟩ : ByteArray), .string (⟨#[]⟩ : ByteArray), .int .i64 0]) (t := 117) ?hr ?_; (case hd => rfl); (case hg => rfl); (case hr => first | (go_simp; done) | (go_simp; rfl)); intro gb235 hg w27 hbox hb; have BK235 := Aside0.mk (hbox); have GE235 := Aside0.mk (ge (w := w) hg); replace HB := Aside0.mk (below_step bl hb); have NB233_235 := Aside0.mk (nl hg (bk BK233.out)); have NB235_233 := Aside0.mk (ng hg (bk BK233.out)); replace BK233 := Aside0.mk (bb BK233.out hb); clear hb hbox hg; obtain ⟨hcz29_0, hcz29_1, hcz29_2, hfz29_0, hfz29_1, hfz29_2⟩ := bz3 BK235.out)
    go_ret
    exact ⟨by first | rfl | (simp [errW_none, errW_some] <;> rfl) | (simp [*, errW_none, errW_some] <;> rfl), bl⟩
  rw [if_neg c26] at H
  have c26b0 : (((rd_T117 l0_3 x12_1).f1).toList == a2.toList) = false := beq_eq_false_iff_ne.mpr c26
  have H' := Aside0.mk H
  clear H
  have p234 : 0 ≤ (x12_1 : Int) := of_decide_eq_true (by first | (with_reducible assumption) | assumption)
  have q234 : x12_1 < (l0_3.length : Int) := of_decide_eq_true (by first | (with_reducible assumption) | assumption)
  obtain ⟨ad234, e234, hx234_0, hx234_1, hx234_2⟩ := at_T117 HR0_3.out x12_1 p234 q234
  cases e234
  replace hx234_0 := hc HB.out hx234_0
  replace hx234_1 := hc HB.out hx234_1
  replace hx234_2 := hc HB.out hx234_2
  replace p234 := eq_true p234
  replace q234 := eq_true q234
  go_wp2_with ((with_reducible refine gate_dst (N := 8) rfl ?_); refine box_event ?hg (N := 8) ?hd (cs := #[.string (⟨#[]⟩ : ByteArray), .string (⟨#[]⟩ : ByteArray), .int .i64 0]) (t := 117) ?hr ?_; (case hd => rfl); (case hg => rfl); (case hr => first | (go_simp; done) | (go_simp; rfl)); intro gb235 hg w30 hbox hb; have BK235 := Aside0.mk (hbox); have GE235 := Aside0.mk (ge (w := w) hg); replace HB := Aside0.mk (below_step bl hb); have NB233_235 := Aside0.mk (nl hg (bk BK233.out)); have NB235_233 := Aside0.mk (ng hg (bk BK233.out)); replace BK233 := Aside0.mk (bb BK233.out hb); clear hb hbox hg; obtain ⟨hcz32_0, hcz32_1, hcz32_2, hfz32_0, hfz32_1, hfz32_2⟩ := bz3 BK235.out)
  go_roundg k1
  case measure => have := HK1.out; omega
  case rel => exact ⟨(wrap64 (x12_1 + 1)), (by first | rfl | (simp; done) | (simp [*]; done)), H', ⟨by have := HK1.out; omega⟩, ⟨bf BK233.out⟩, ⟨bl⟩⟩

end Go.Proofs.YtpkpmdmmnhmnlaaDoor.PT
namespace Go.Proofs.YtpkpmdmmnhmnlaaDoor.PT
open Go.RowKit Go.Proofs.YtpkpmdmmnhmnlaaDoorW.PrintWords Go.Proofs.YtpkpmdmmnhmnlaaDoorW.PrintLast Go.Proofs.YtpkpmdmmnhmnlaaDoorW.PrintMore
attribute [local go_sem] max2_int min2_int max_two min_two max_three min_three max_four min_four   -- for this text's walks alone
set_option linter.unusedVariables false
set_option linter.unusedSimpArgs false

/-! ### clocks_Before: function 54 -/
def clocks_Before.l0 : Nat → ByteArray → List (S115) → Int → Int → Option (Int)
  | 0, _, _, _, _ => none
  | k + 1, x1, x8, x9, x10 => if x10 < x9 then (if 0 ≤ x10 then (if x10 < (x8.length : Int) then (if ((rd_T115 x8 x10).f0).toList = x1.toList then (some ((rd_T115 x8 x10).f1)) else (clocks_Before.l0 k x1 x8 x9 (wrap64 (x10 + 1)))) else (none)) else (none)) else (some 1)
def clocks_Before.f (k : Nat) (a0_0 : Int) (l0_1 : List (S112)) (l0_2 : List (S115)) (l0_3 : List (S117)) (a1 : ByteArray) : Option (Int) := clocks_Before.l0 k a1 l0_2 (l0_2.length : Int) 0
theorem clocks_Before.mono_l : ∀ k, (∀ y0 y1 y2 y3, LeO (clocks_Before.l0 k y0 y1 y2 y3) (clocks_Before.l0 (k + 1) y0 y1 y2 y3))
  | 0 => fun _ _ _ _ r h => by simp [clocks_Before.l0] at h
  | k + 1 => by
    have ih0 := clocks_Before.mono_l k
    · intro y0 y1 y2 y3
      unfold clocks_Before.l0
      repeat' first
      | (with_reducible exact ih0 _ _ _ _)
      | (with_reducible exact LeO.refl _)
      | (with_reducible exact LeO.none _)
      | (with_reducible refine LeO.ite ?_ ?_)
      | (with_reducible refine LeO.bind ?_ (fun _ => ?_))
theorem clocks_Before.mono : ∀ a0 a1 a2 a3 a4 k, LeO (clocks_Before.f k a0 a1 a2 a3 a4) (clocks_Before.f (k + 1) a0 a1 a2 a3 a4) := by
 intro a0 a1 a2 a3 a4 k
 have ih0 := clocks_Before.mono_l k
 unfold clocks_Before.f
 repeat' first
     | (with_reducible exact ih0 _ _ _ _)
     | (with_reducible exact LeO.refl _)
     | (with_reducible exact LeO.none _)
     | (with_reducible refine LeO.ite ?_ ?_)
     | (with_reducible refine LeO.bind ?_ (fun _ => ?_))
set_option maxHeartbeats 8000000 in
set_option maxRecDepth 100000 in
theorem clocks_Before.calls (k : Nat) (a0_0 : Int) (A0_1 : Option Addr) (c0_1 : Nat) (l0_1 : List (S112)) (A0_2 : Option Addr) (c0_2 : Nat) (l0_2 : List (S115)) (A0_3 : Option Addr) (c0_3 : Nat) (l0_3 : List (S117)) (a1 : ByteArray) (r : Int) (w : World) (hr0_1 : Kd.C k112 w A0_1 l0_1.length l0_1) (hc0_1 : l0_1.length ≤ c0_1) (hr0_2 : Kd.C k115 w A0_2 l0_2.length l0_2) (hc0_2 : l0_2.length ≤ c0_2) (hr0_3 : Kd.C k117 w A0_3 l0_3.length l0_3) (hc0_3 : l0_3.length ≤ c0_3) (h : clocks_Before.f k a0_0 l0_1 l0_2 l0_3 a1 = some r) :
    Calls Tryd.prog 54 #[.agg #[.int .i64 a0_0, .slice A0_1 l0_1.length c0_1, .slice A0_2 l0_2.length c0_2, .slice A0_3 l0_3.length c0_3], .string a1] w fun e w' => e = .returned (.int .i64 r) ∧ Below w.heap.size w w' := by
 clear hr0_1 hc0_1
 have HR0_2 := Aside0.mk hr0_2
 clear hr0_2 hc0_2
 clear hr0_3 hc0_3
 have HB := Aside0.mk (Below.refl w.heap.size w)
 have H : (clocks_Before.l0 k a1 l0_2 (l0_2.length : Int) 0) = some r := h
 clear h
 have H' := Aside0.mk H
 clear H
 go_enter Tryd.func54, Tryd.ntmps54
 go_wp2_with ((with_reducible refine gate_dst (N := 2) rfl ?_); refine box_event ?hg (N := 2) ?hd (cs := #[.int .i64 a0_0, .slice A0_1 l0_1.length c0_1, .slice A0_2 l0_2.length c0_2, .slice A0_3 l0_3.length c0_3]) (t := 72) ?hr ?_; (case hd => rfl); (case hg => rfl); (case hr => first | (go_simp; done) | (go_simp; rfl)); intro gb243 hg w3 hbox hb; have BK243 := Aside0.mk (hbox); replace HB := Aside0.mk (below_step bl hb); clear hb hbox hg; obtain ⟨hcz4_0, hcz4_1, hcz4_2, hcz4_3, hfz4_0, hfz4_1, hfz4_2, hfz4_3⟩ := bz4 BK243.out)
 go_loopg [10] k (fun kq v10 w' => ∃ (x10_1 : Int), v10 = .int .i64 x10_1 ∧ Aside0 (clocks_Before.l0 kq a1 l0_2 (l0_2.length : Int) x10_1 = some r) ∧ Aside0 (kq ≤ k) ∧ Aside0 (w'.heap[gb243]? = some (.cells #[.int .i64 a0_0, (.slice A0_1 l0_1.length c0_1), (.slice A0_2 l0_2.length c0_2), (.slice A0_3 l0_3.length c0_3)] 72 (0, 0))) ∧ Aside0 (Below w.heap.size w w'))
 case atStart => exact ⟨(0), (by first | rfl | (simp; done) | (simp [*]; done)), H', ⟨Nat.le_refl _⟩, ⟨bk BK243.out⟩, ⟨bl⟩⟩
 clear H'
 clear hcz4_0 hcz4_1 hcz4_2 hcz4_3 hfz4_0 hfz4_1 hfz4_2 hfz4_3
 obtain ⟨x10_1, rfl, HA, HK1, BK243, HB⟩ := hrel
 cases gk with
 | zero => exact absurd HA.out (by simp [clocks_Before.l0])
 | succ k1 =>
  have H := HA.out
  clear HA
  simp only [clocks_Before.l0] at H
  by_cases c5 : x10_1 < (l0_2.length : Int)
  rotate_left
  · rw [if_neg c5] at H
    have c5b0 : decide (x10_1 < (l0_2.length : Int)) = false := decide_eq_false c5
    clear c5
    obtain rfl := Option.some.inj H
    go_wp2
    go_ret
    exact ⟨by first | rfl | (simp [errW_none, errW_some] <;> rfl) | (simp [*, errW_none, errW_some] <;> rfl), bl⟩
  rw [if_pos c5] at H
  have c5b0 : decide (x10_1 < (l0_2.length : Int)) = true := decide_eq_true c5
  clear c5
  by_cases c6 : 0 ≤ x10_1
  rotate_left
  · rw [if_neg c6] at H
    exact absurd H (by simp)
  rw [if_pos c6] at H
  have c6b0 : decide (0 ≤ x10_1) = true := decide_eq_true c6
  clear c6
  by_cases c7 : x10_1 < (l0_2.length : Int)
  rotate_left
  · rw [if_neg c7] at H
    exact absurd H (by simp)
  rw [if_pos c7] at H
  have c7b0 : decide (x10_1 < (l0_2.length : Int)) = true := decide_eq_true c7
  clear c7
  by_cases c8 : ((rd_T115 l0_2 x10_1).f0).toList = a1.toList
  · rw [if_pos c8] at H
    have c8b0 : (((rd_T115 l0_2 x10_1).f0).toList == a1.toList) = true := beq_iff_eq.mpr c8
    clear c8
    obtain rfl := Option.some.inj H
    have p244 : 0 ≤ (x10_1 : Int) := of_decide_eq_true (by first | (with_reducible assumption) | assumption)
    have q244 : x10_1 < (l0_2.length : Int) := of_decide_eq_true (by first | (with_reducible assumption) | assumption)
    obtain ⟨ad244, e244, hx244_0, hx244_1⟩ := at_T115 HR0_2.out x10_1 p244 q244
    cases e244
    replace hx244_0 := hc HB.out hx244_0
    replace hx244_1 := hc HB.out hx244_1
    replace p244 := eq_true p244
    replace q244 := eq_true q244
    go_wp2_with ((with_reducible refine gate_dst (N := 6) rfl ?_); refine box_event ?hg (N := 6) ?hd (cs := #[.string (⟨#[]⟩ : ByteArray), .int .i64 0]) (t := 115) ?hr ?_; (case hd => rfl); (case hg => rfl); (case hr => first | (go_simp; done) | (go_simp; rfl)); intro gb245 hg w9 hbox hb; have BK245 := Aside0.mk (hbox); have GE245 := Aside0.mk (ge (w := w) hg); replace HB := Aside0.mk (below_step bl hb); have NB243_245 := Aside0.mk (nl hg (bk BK243.out)); have NB245_243 := Aside0.mk (ng hg (bk BK243.out)); replace BK243 := Aside0.mk (bb BK243.out hb); clear hb hbox hg; obtain ⟨hcz11_0, hcz11_1, hfz11_0, hfz11_1⟩ := bz2 BK245.out)
    go_ret
    exact ⟨by first | rfl | (simp [errW_none, errW_some] <;> rfl) | (simp [*, errW_none, errW_some] <;> rfl), bl⟩
  rw [if_neg c8] at H
  have c8b0 : (((rd_T115 l0_2 x10_1).f0).toList == a1.toList) = false := beq_eq_false_iff_ne.mpr c8
  have H' := Aside0.mk H
  clear H
  have p244 : 0 ≤ (x10_1 : Int) := of_decide_eq_true (by first | (with_reducible assumption) | assumption)
  have q244 : x10_1 < (l0_2.length : Int) := of_decide_eq_true (by first | (with_reducible assumption) | assumption)
  obtain ⟨ad244, e244, hx244_0, hx244_1⟩ := at_T115 HR0_2.out x10_1 p244 q244
  cases e244
  replace hx244_0 := hc HB.out hx244_0
  replace hx244_1 := hc HB.out hx244_1
  replace p244 := eq_true p244
  replace q244 := eq_true q244
  go_wp2_with ((with_reducible refine gate_dst (N := 6) rfl ?_); refine box_event ?hg (N := 6) ?hd (cs := #[.string (⟨#[]⟩ : ByteArray), .int .i64 0]) (t := 115) ?hr ?_; (case hd => rfl); (case hg => rfl); (case hr => first | (go_simp; done) | (go_simp; rfl)); intro gb245 hg w12 hbox hb; have BK245 := Aside0.mk (hbox); have GE245 := Aside0.mk (ge (w := w) hg); replace HB := Aside0.mk (below_step bl hb); have NB243_245 := Aside0.mk (nl hg (bk BK243.out)); have NB245_243 := Aside0.mk (ng hg (bk BK243.out)); replace BK243 := Aside0.mk (bb BK243.out hb); clear hb hbox hg; obtain ⟨hcz14_0, hcz14_1, hfz14_0, hfz14_1⟩ := bz2 BK245.out)
  go_roundg k1
  case measure => have := HK1.out; omega
  case rel => exact ⟨(wrap64 (x10_1 + 1)), (by first | rfl | (simp; done) | (simp [*]; done)), H', ⟨by have := HK1.out; omega⟩, ⟨bf BK243.out⟩, ⟨bl⟩⟩

end Go.Proofs.YtpkpmdmmnhmnlaaDoor.PT
