-- PRINTED by print.py (a twelfth state) out of the translation. Not trusted: Lean checks it.
import Derived.Test.YtlegjcagkmjfjaaDoorCmp
import Derived.Test.YtlegjcagkmjfjaaDoorPTx0
namespace Go.Proofs.YtlegjcagkmjfjaaDoor.PT
open Go.RowKit Go.Proofs.YtlegjcagkmjfjaaDoorW.PrintWords Go.Proofs.YtlegjcagkmjfjaaDoorW.PrintLast Go.Proofs.YtlegjcagkmjfjaaDoorW.PrintMore
attribute [local go_sem] max2_int min2_int max_two min_two max_three min_three max_four min_four   -- for this text's walks alone
set_option linter.unusedVariables false
set_option linter.unusedSimpArgs false

/-! ### clocks_At: function 57 -/
def clocks_At.l0 : Nat → ByteArray → List (S78) → Int → Int → Option (Int × Int)
 | 0, _, _, _, _ => none
 | k + 1, x1, x8, x9, x10 => if x10 < x9 then (if 0 ≤ x10 then (if x10 < (x8.length : Int) then (if ((rd_T78 x8 x10).f0).toList = x1.toList then (some ((rd_T78 x8 x10).f1.f0, (rd_T78 x8 x10).f1.f1)) else (clocks_At.l0 k x1 x8 x9 (wrap64 (x10 + 1)))) else (none)) else (none)) else (some (0, 0))
def clocks_At.f (k : Nat) (a0_0 : Int) (l0_1 : List (S78)) (l0_2 : List (S81)) (l0_3 : List (S83)) (a1 : ByteArray) : Option (Int × Int) := clocks_At.l0 k a1 l0_1 (l0_1.length : Int) 0
theorem clocks_At.mono_l : ∀ k, (∀ y0 y1 y2 y3, LeO (clocks_At.l0 k y0 y1 y2 y3) (clocks_At.l0 (k + 1) y0 y1 y2 y3))
 | 0 => fun _ _ _ _ r h => by simp [clocks_At.l0] at h
 | k + 1 => by
  have ih0 := clocks_At.mono_l k
  · intro y0 y1 y2 y3
    unfold clocks_At.l0
    repeat' first
    | (with_reducible exact ih0 _ _ _ _)
    | (with_reducible exact LeO.refl _)
    | (with_reducible exact LeO.none _)
    | (with_reducible refine LeO.ite ?_ ?_)
    | (with_reducible refine LeO.bind ?_ (fun _ => ?_))
theorem clocks_At.mono : ∀ a0 a1 a2 a3 a4 k, LeO (clocks_At.f k a0 a1 a2 a3 a4) (clocks_At.f (k + 1) a0 a1 a2 a3 a4) := by
 intro a0 a1 a2 a3 a4 k
 have ih0 := clocks_At.mono_l k
 unfold clocks_At.f
 repeat' first
  | (with_reducible exact ih0 _ _ _ _)
  | (with_reducible exact LeO.refl _)
  | (with_reducible exact LeO.none _)
  | (with_reducible refine LeO.ite ?_ ?_)
  | (with_reducible refine LeO.bind ?_ (fun _ => ?_))
set_option maxHeartbeats 8000000 in
set_option maxRecDepth 100000 in
theorem clocks_At.calls (k : Nat) (a0_0 : Int) (A0_1 : Option Addr) (c0_1 : Nat) (l0_1 : List (S78)) (A0_2 : Option Addr) (c0_2 : Nat) (l0_2 : List (S81)) (A0_3 : Option Addr) (c0_3 : Nat) (l0_3 : List (S83)) (a1 : ByteArray) (r1 : Int) (r2 : Int) (w : World) (hr0_1 : Kd.C k78 w A0_1 l0_1.length l0_1) (hc0_1 : l0_1.length ≤ c0_1) (hr0_2 : Kd.C k81 w A0_2 l0_2.length l0_2) (hc0_2 : l0_2.length ≤ c0_2) (hr0_3 : Kd.C k83 w A0_3 l0_3.length l0_3) (hc0_3 : l0_3.length ≤ c0_3) (h : clocks_At.f k a0_0 l0_1 l0_2 l0_3 a1 = some (r1, r2)) :
 Calls Tryd.prog 57 #[.agg #[.int .i64 a0_0, .slice A0_1 l0_1.length c0_1, .slice A0_2 l0_2.length c0_2, .slice A0_3 l0_3.length c0_3], .string a1] w fun e w' => e = .returned (.agg #[.int .i64 r1, .int .i64 r2]) ∧ Below w.heap.size w w' := by
 have HR0_1 := Aside0.mk hr0_1
 clear hr0_1 hc0_1
 clear hr0_2 hc0_2
 clear hr0_3 hc0_3
 have HB := Aside0.mk (Below.refl w.heap.size w)
 have H : (clocks_At.l0 k a1 l0_1 (l0_1.length : Int) 0) = some (r1, r2) := h
 clear h
 have H' := Aside0.mk H
 clear H
 go_enter Tryd.func57, Tryd.ntmps57
 go_wp2_with (first | ((with_reducible refine gate_dst (N := 2) rfl ?_); refine box_event ?hg (N := 2) ?hd (cs := #[.int .i64 a0_0, .slice A0_1 l0_1.length c0_1, .slice A0_2 l0_2.length c0_2, .slice A0_3 l0_3.length c0_3]) (t := 37) ?hr ?_; (case hd => rfl); (case hg => rfl); (case hr => first | (go_simp; done) | (go_simp; rfl)); intro gb200 hg w3 hbox hb; have n0_ := Aside0.mk (below_step bl hb); have n1_ := Aside0.mk (hbox); have n2_ := Aside0.mk (ge (w := w) hg); have n3_ := Aside0.mk (ge (w := w) hg); clear HB; have HB := n0_; have BK200 := n1_; have GE200 := n3_; clear n0_ n1_ n2_ n3_; clear hb hbox hg) | ((with_reducible refine gate_dst (N := 4) rfl ?_); refine box_event ?hg (N := 4) ?hd (cs := #[.int .i64 0, .int .i64 0]) (t := 53) ?hr ?_; (case hd => rfl); (case hg => rfl); (case hr => first | (go_simp; done) | (go_simp; rfl)); intro gb201 hg w4 hbox hb; have n0_ := Aside0.mk (bb BK200.out hb); have n1_ := Aside0.mk (below_step bl hb); have n2_ := Aside0.mk (hbox); have n3_ := Aside0.mk (ge (w := w) hg); have n4_ := Aside0.mk (ge (w := w) hg); have n5_ := Aside0.mk (nl hg (bk BK200.out)); have n6_ := Aside0.mk (ng hg (bk BK200.out)); clear BK200; clear HB; have BK200 := n0_; have HB := n1_; have BK201 := n2_; have GE201 := n4_; have NB200_201 := n5_; have NB201_200 := n6_; clear n0_ n1_ n2_ n3_ n4_ n5_ n6_; clear hb hbox hg; obtain ⟨hcz6_0, hcz6_1, hcz6_2, hcz6_3, hfz6_0, hfz6_1, hfz6_2, hfz6_3⟩ := bz4 BK200.out))
 go_loopg [10] k (fun kq v10 w' => ∃ (x10_1 : Int) (x202000_1 : Int) (x202001_1 : Int), v10 = .int .i64 x10_1 ∧ Aside0 (clocks_At.l0 kq a1 l0_1 (l0_1.length : Int) x10_1 = some (r1, r2)) ∧ Aside0 (kq ≤ k) ∧ Aside0 (w'.heap[gb200]? = some (.cells #[.int .i64 a0_0, (.slice A0_1 l0_1.length c0_1), (.slice A0_2 l0_2.length c0_2), (.slice A0_3 l0_3.length c0_3)] 37 (0, 0))) ∧ Aside0 (w'.heap[gb201]? = some (.cells #[.int .i64 x202000_1, .int .i64 x202001_1] 53 (0, 0))) ∧ Aside0 (Below w.heap.size w w'))
 case atStart => exact ⟨(0), (0), (0), (by first | rfl | (simp; done) | (simp [*]; done)), H', ⟨Nat.le_refl _⟩, ⟨bk BK200.out⟩, ⟨bk BK201.out⟩, ⟨bl⟩⟩
 clear H'
 clear hcz6_0 hcz6_1 hcz6_2 hcz6_3 hfz6_0 hfz6_1 hfz6_2 hfz6_3
 obtain ⟨x10_1, x202000_1, x202001_1, rfl, HA, HK1, BK200, BK201, HB⟩ := hrel
 cases gk with
 | zero => exact absurd HA.out (by simp [clocks_At.l0])
 | succ k1 =>
  have H := HA.out
  clear HA
  simp only [clocks_At.l0] at H
  by_cases c7 : x10_1 < (l0_1.length : Int)
  rotate_left
  · rw [if_neg c7] at H
    have c7b0 : decide (x10_1 < (l0_1.length : Int)) = false := decide_eq_false c7
    clear c7
    simp only [Option.some.injEq, Prod.mk.injEq] at H
    obtain ⟨rfl, rfl⟩ := H
    obtain ⟨hcz22_0, hcz22_1, hfz22_0, hfz22_1⟩ := bz2 BK201.out
    go_wp2
    refine bodyPost_ret (results_cell_row rfl _ _ gb201 53 #[.int .i64 0, .int .i64 0] (0, 0) _ rfl (by (with_reducible repeat (first | refine blk_drewN ?_ _ | refine blk_drew ?_ | refine blk_alloc ?_ _)); refine blk_put (cs := #[.int .i64 0, .int .i64 x202001_1]) ?_ 1 _ rfl; (with_reducible repeat (first | refine blk_drewN ?_ _ | refine blk_drew ?_ | refine blk_alloc ?_ _)); refine blk_put (cs := #[.int .i64 x202000_1, .int .i64 x202001_1]) ?_ 0 _ rfl; (with_reducible repeat (first | refine blk_drewN ?_ _ | refine blk_drew ?_ | refine blk_alloc ?_ _)); exact BK201.out) Tryd.underlying53 rfl (by kernel_rfl)) rfl ?_
    exact ⟨by first | rfl | (simp [errW_none, errW_some] <;> rfl) | (simp [*, errW_none, errW_some] <;> rfl), bl⟩
  rw [if_pos c7] at H
  have c7b0 : decide (x10_1 < (l0_1.length : Int)) = true := decide_eq_true c7
  clear c7
  by_cases c8 : 0 ≤ x10_1
  rotate_left
  · rw [if_neg c8] at H
    exact absurd H (by simp)
  rw [if_pos c8] at H
  have c8b0 : decide (0 ≤ x10_1) = true := decide_eq_true c8
  clear c8
  by_cases c9 : x10_1 < (l0_1.length : Int)
  rotate_left
  · rw [if_neg c9] at H
    exact absurd H (by simp)
  rw [if_pos c9] at H
  have c9b0 : decide (x10_1 < (l0_1.length : Int)) = true := decide_eq_true c9
  clear c9
  by_cases c10 : ((rd_T78 l0_1 x10_1).f0).toList = a1.toList
  · rw [if_pos c10] at H
    have c10b0 : (((rd_T78 l0_1 x10_1).f0).toList == a1.toList) = true := beq_iff_eq.mpr c10
    clear c10
    simp only [Option.some.injEq, Prod.mk.injEq] at H
    obtain ⟨rfl, rfl⟩ := H
    have p202 : 0 ≤ (x10_1 : Int) := of_decide_eq_true (by first | (with_reducible assumption) | assumption)
    have q202 : x10_1 < (l0_1.length : Int) := of_decide_eq_true (by first | (with_reducible assumption) | assumption)
    obtain ⟨ad202, e202, hx202_0, hx202_1, hx202_2⟩ := at_T78 HR0_1.out x10_1 p202 q202
    cases e202
    replace hx202_0 := hc HB.out hx202_0
    replace hx202_1 := hc HB.out hx202_1
    replace hx202_2 := hc HB.out hx202_2
    replace p202 := eq_true p202
    replace q202 := eq_true q202
    go_wp2_with ((with_reducible refine gate_dst (N := 6) rfl ?_); refine box_event ?hg (N := 6) ?hd (cs := #[.string (⟨#[]⟩ : ByteArray), .int .i64 0, .int .i64 0]) (t := 78) ?hr ?_; (case hd => rfl); (case hg => rfl); (case hr => first | (go_simp; done) | (go_simp; rfl)); intro gb203 hg w11 hbox hb; have n0_ := Aside0.mk (bb BK200.out hb); have n1_ := Aside0.mk (bb BK201.out hb); have n2_ := Aside0.mk (below_step bl hb); have n3_ := Aside0.mk (hbox); have n4_ := Aside0.mk (ge (w := w) hg); have n5_ := Aside0.mk (ge (w := w) hg); have n6_ := Aside0.mk (nl hg (bk BK200.out)); have n7_ := Aside0.mk (ng hg (bk BK200.out)); have n8_ := Aside0.mk (nl hg (bk BK201.out)); have n9_ := Aside0.mk (ng hg (bk BK201.out)); clear BK200; clear BK201; clear HB; have BK201 := n1_; have HB := n2_; have BK203 := n3_; have GE203 := n5_; have NB200_203 := n6_; have NB203_200 := n7_; have NB201_203 := n8_; have NB203_201 := n9_; clear n0_ n1_ n2_ n3_ n4_ n5_ n6_ n7_ n8_ n9_; clear hb hbox hg; have hnc13 := NB201_203.out; obtain ⟨hcz14_0, hcz14_1, hcz14_2, hfz14_0, hfz14_1, hfz14_2⟩ := bz3 BK203.out; have hnb15 := NB201_200.out; have hnc15 := NB200_201.out; obtain ⟨hcz16_0, hcz16_1, hfz16_0, hfz16_1⟩ := bz2 BK201.out)
    refine bodyPost_ret (results_cell_row rfl _ _ gb201 53 #[.int .i64 ((rd_T78 l0_1 x10_1).f1.f0), .int .i64 ((rd_T78 l0_1 x10_1).f1.f1)] (0, 0) _ rfl (by (with_reducible repeat (first | refine blk_drewN ?_ _ | refine blk_drew ?_ | refine blk_alloc ?_ _)); refine blk_put (cs := #[.int .i64 ((rd_T78 l0_1 x10_1).f1.f0), .int .i64 x202001_1]) ?_ 1 _ rfl; (with_reducible repeat (first | refine blk_drewN ?_ _ | refine blk_drew ?_ | refine blk_alloc ?_ _)); refine blk_put (cs := #[.int .i64 x202000_1, .int .i64 x202001_1]) ?_ 0 _ rfl; (with_reducible repeat (first | refine blk_drewN ?_ _ | refine blk_drew ?_ | refine blk_alloc ?_ _)); refine blk_far ?_ NB201_203.out _; (with_reducible repeat (first | refine blk_drewN ?_ _ | refine blk_drew ?_ | refine blk_alloc ?_ _)); refine blk_far ?_ NB201_203.out _; (with_reducible repeat (first | refine blk_drewN ?_ _ | refine blk_drew ?_ | refine blk_alloc ?_ _)); refine blk_far ?_ NB201_203.out _; (with_reducible repeat (first | refine blk_drewN ?_ _ | refine blk_drew ?_ | refine blk_alloc ?_ _)); exact BK201.out) Tryd.underlying53 rfl (by kernel_rfl)) rfl ?_
    exact ⟨by first | rfl | (simp [errW_none, errW_some] <;> rfl) | (simp [*, errW_none, errW_some] <;> rfl), bl⟩
  rw [if_neg c10] at H
  have c10b0 : (((rd_T78 l0_1 x10_1).f0).toList == a1.toList) = false := beq_eq_false_iff_ne.mpr c10
  have H' := Aside0.mk H
  clear H
  have p202 : 0 ≤ (x10_1 : Int) := of_decide_eq_true (by first | (with_reducible assumption) | assumption)
  have q202 : x10_1 < (l0_1.length : Int) := of_decide_eq_true (by first | (with_reducible assumption) | assumption)
  obtain ⟨ad202, e202, hx202_0, hx202_1, hx202_2⟩ := at_T78 HR0_1.out x10_1 p202 q202
  cases e202
  replace hx202_0 := hc HB.out hx202_0
  replace hx202_1 := hc HB.out hx202_1
  replace hx202_2 := hc HB.out hx202_2
  replace p202 := eq_true p202
  replace q202 := eq_true q202
  go_wp2_with ((with_reducible refine gate_dst (N := 6) rfl ?_); refine box_event ?hg (N := 6) ?hd (cs := #[.string (⟨#[]⟩ : ByteArray), .int .i64 0, .int .i64 0]) (t := 78) ?hr ?_; (case hd => rfl); (case hg => rfl); (case hr => first | (go_simp; done) | (go_simp; rfl)); intro gb203 hg w17 hbox hb; have n0_ := Aside0.mk (bb BK200.out hb); have n1_ := Aside0.mk (bb BK201.out hb); have n2_ := Aside0.mk (below_step bl hb); have n3_ := Aside0.mk (hbox); have n4_ := Aside0.mk (ge (w := w) hg); have n5_ := Aside0.mk (ge (w := w) hg); have n6_ := Aside0.mk (nl hg (bk BK200.out)); have n7_ := Aside0.mk (ng hg (bk BK200.out)); have n8_ := Aside0.mk (nl hg (bk BK201.out)); have n9_ := Aside0.mk (ng hg (bk BK201.out)); clear BK200; clear BK201; clear HB; have BK200 := n0_; have BK201 := n1_; have HB := n2_; have BK203 := n3_; have GE203 := n5_; have NB200_203 := n6_; have NB203_200 := n7_; have NB201_203 := n8_; have NB203_201 := n9_; clear n0_ n1_ n2_ n3_ n4_ n5_ n6_ n7_ n8_ n9_; clear hb hbox hg; obtain ⟨hcz20_0, hcz20_1, hcz20_2, hfz20_0, hfz20_1, hfz20_2⟩ := bz3 BK203.out)
  go_roundg k1
  case measure => have := HK1.out; omega
  case rel => exact ⟨(wrap64 (x10_1 + 1)), (x202000_1), (x202001_1), (by first | rfl | (simp; done) | (simp [*]; done)), H', ⟨by have := HK1.out; omega⟩, ⟨bf BK200.out⟩, ⟨bf BK201.out⟩, ⟨bl⟩⟩

end Go.Proofs.YtlegjcagkmjfjaaDoor.PT
namespace Go.Proofs.YtlegjcagkmjfjaaDoor.PT
open Go.RowKit Go.Proofs.YtlegjcagkmjfjaaDoorW.PrintWords Go.Proofs.YtlegjcagkmjfjaaDoorW.PrintLast Go.Proofs.YtlegjcagkmjfjaaDoorW.PrintMore
attribute [local go_sem] max2_int min2_int max_two min_two max_three min_three max_four min_four   -- for this text's walks alone
set_option linter.unusedVariables false
set_option linter.unusedSimpArgs false

/-! ### timing_later: function 35 -/
def timing_later.f (a0_0 : Bool) (a0_1 : Int) (a0_2 : Int) (a1_0 : Int) (a1_1 : Int) : Option (Bool × Int × Int) := if a0_0 = true then (some (true, wrap64 (a0_1 + a1_0), wrap64 (a0_2 + a1_1))) else (some (a0_0, a0_1, a0_2))
set_option maxHeartbeats 8000000 in
set_option maxRecDepth 100000 in
theorem timing_later.calls (a0_0 : Bool) (a0_1 : Int) (a0_2 : Int) (a1_0 : Int) (a1_1 : Int) (r1 : Bool) (r2 : Int) (r3 : Int) (w : World) (h : timing_later.f a0_0 a0_1 a0_2 a1_0 a1_1 = some (r1, r2, r3)) :
 Calls Tryd.prog 35 #[.agg #[.bool a0_0, .int .i64 a0_1, .int .i64 a0_2], .agg #[.int .i64 a1_0, .int .i64 a1_1]] w fun e w' => e = .returned (.agg #[.bool r1, .int .i64 r2, .int .i64 r3]) ∧ Below w.heap.size w w' := by
 have HB := Aside0.mk (Below.refl w.heap.size w)
 have H : (if a0_0 = true then (some (true, wrap64 (a0_1 + a1_0), wrap64 (a0_2 + a1_1))) else (some (a0_0, a0_1, a0_2))) = some (r1, r2, r3) := h
 clear h
 by_cases c3 : a0_0 = true
 · subst c3
   have H1 : (some (true, wrap64 (a0_1 + a1_0), wrap64 (a0_2 + a1_1))) = some (r1, r2, r3) := by rw [if_pos rfl] at H; exact H
   clear H
   have H := H1
   clear H1
   simp only [Option.some.injEq, Prod.mk.injEq] at H
   obtain ⟨rfl, rfl, rfl⟩ := H
   go_enter Tryd.func35, Tryd.ntmps35
   go_wp2_with (first | ((with_reducible refine gate_dst (N := 2) rfl ?_); refine box_event ?hg (N := 2) ?hd (cs := #[.bool true, .int .i64 a0_1, .int .i64 a0_2]) (t := 67) ?hr ?_; (case hd => rfl); (case hg => rfl); (case hr => first | (go_simp; done) | (go_simp; rfl)); intro gb216 hg w4 hbox hb; have n0_ := Aside0.mk (below_step bl hb); have n1_ := Aside0.mk (hbox); have n2_ := Aside0.mk (ge (w := w) hg); have n3_ := Aside0.mk (ge (w := w) hg); clear HB; have HB := n0_; have BK216 := n1_; have GE216 := n3_; clear n0_ n1_ n2_ n3_; clear hb hbox hg) | ((with_reducible refine gate_dst (N := 3) rfl ?_); refine box_event ?hg (N := 3) ?hd (cs := #[.int .i64 a1_0, .int .i64 a1_1]) (t := 53) ?hr ?_; (case hd => rfl); (case hg => rfl); (case hr => first | (go_simp; done) | (go_simp; rfl)); intro gb217 hg w5 hbox hb; have n0_ := Aside0.mk (bb BK216.out hb); have n1_ := Aside0.mk (below_step bl hb); have n2_ := Aside0.mk (hbox); have n3_ := Aside0.mk (ge (w := w) hg); have n4_ := Aside0.mk (ge (w := w) hg); have n5_ := Aside0.mk (nl hg (bk BK216.out)); have n6_ := Aside0.mk (ng hg (bk BK216.out)); clear BK216; clear HB; have BK216 := n0_; have HB := n1_; have BK217 := n2_; have GE217 := n4_; have NB216_217 := n5_; have NB217_216 := n6_; clear n0_ n1_ n2_ n3_ n4_ n5_ n6_; clear hb hbox hg) | ((with_reducible refine gate_dst (N := 4) rfl ?_); refine box_event ?hg (N := 4) ?hd (cs := #[.bool false, .int .i64 0, .int .i64 0]) (t := 67) ?hr ?_; (case hd => rfl); (case hg => rfl); (case hr => first | (go_simp; done) | (go_simp; rfl)); intro gb218 hg w6 hbox hb; have n0_ := Aside0.mk (bb BK216.out hb); have n1_ := Aside0.mk (bb BK217.out hb); have n2_ := Aside0.mk (below_step bl hb); have n3_ := Aside0.mk (hbox); have n4_ := Aside0.mk (ge (w := w) hg); have n5_ := Aside0.mk (ge (w := w) hg); have n6_ := Aside0.mk (nl hg (bk BK216.out)); have n7_ := Aside0.mk (ng hg (bk BK216.out)); have n8_ := Aside0.mk (nl hg (bk BK217.out)); have n9_ := Aside0.mk (ng hg (bk BK217.out)); clear BK216; clear BK217; clear HB; have BK216 := n0_; have BK217 := n1_; have HB := n2_; have BK218 := n3_; have GE218 := n5_; have NB216_218 := n6_; have NB218_216 := n7_; have NB217_218 := n8_; have NB218_217 := n9_; clear n0_ n1_ n2_ n3_ n4_ n5_ n6_ n7_ n8_ n9_; clear hb hbox hg; obtain ⟨hcz9_0, hcz9_1, hcz9_2, -, -, -⟩ := bz3 BK216.out; obtain ⟨hcz11_0, hcz11_1, -, -⟩ := bz2 BK217.out; obtain ⟨hcz12_0, hcz12_1, hcz12_2, hfz12_0, hfz12_1, hfz12_2⟩ := bz3 BK218.out))
   refine bodyPost_ret (results_cell_row rfl _ _ gb218 67 #[.bool true, .int .i64 (wrap64 (a0_1 + a1_0)), .int .i64 (wrap64 (a0_2 + a1_1))] (0, 0) _ rfl (by (with_reducible repeat (first | refine blk_drewN ?_ _ | refine blk_drew ?_ | refine blk_alloc ?_ _)); refine blk_put (cs := #[.bool true, .int .i64 (wrap64 (a0_1 + a1_0)), .int .i64 0]) ?_ 2 _ rfl; (with_reducible repeat (first | refine blk_drewN ?_ _ | refine blk_drew ?_ | refine blk_alloc ?_ _)); refine blk_put (cs := #[.bool true, .int .i64 0, .int .i64 0]) ?_ 1 _ rfl; (with_reducible repeat (first | refine blk_drewN ?_ _ | refine blk_drew ?_ | refine blk_alloc ?_ _)); refine blk_put (cs := #[.bool false, .int .i64 0, .int .i64 0]) ?_ 0 _ rfl; (with_reducible repeat (first | refine blk_drewN ?_ _ | refine blk_drew ?_ | refine blk_alloc ?_ _)); exact BK218.out) Tryd.underlying67 rfl (by kernel_rfl)) rfl ?_
   exact ⟨by first | rfl | (simp [errW_none, errW_some] <;> rfl) | (simp [*, errW_none, errW_some] <;> rfl), bl⟩
 replace c3 := Bool.eq_false_iff.mpr c3
 subst c3
 have H1 : (some (false, a0_1, a0_2)) = some (r1, r2, r3) := by rw [if_neg (show ¬ (false = true) by decide)] at H; exact H
 clear H
 have H := H1
 clear H1
 simp only [Option.some.injEq, Prod.mk.injEq] at H
 obtain ⟨rfl, rfl, rfl⟩ := H
 go_enter Tryd.func35, Tryd.ntmps35
 go_wp2_with (first | ((with_reducible refine gate_dst (N := 2) rfl ?_); refine box_event ?hg (N := 2) ?hd (cs := #[.bool false, .int .i64 a0_1, .int .i64 a0_2]) (t := 67) ?hr ?_; (case hd => rfl); (case hg => rfl); (case hr => first | (go_simp; done) | (go_simp; rfl)); intro gb216 hg w13 hbox hb; have n0_ := Aside0.mk (below_step bl hb); have n1_ := Aside0.mk (hbox); have n2_ := Aside0.mk (ge (w := w) hg); have n3_ := Aside0.mk (ge (w := w) hg); clear HB; have HB := n0_; have BK216 := n1_; have GE216 := n3_; clear n0_ n1_ n2_ n3_; clear hb hbox hg) | ((with_reducible refine gate_dst (N := 3) rfl ?_); refine box_event ?hg (N := 3) ?hd (cs := #[.int .i64 a1_0, .int .i64 a1_1]) (t := 53) ?hr ?_; (case hd => rfl); (case hg => rfl); (case hr => first | (go_simp; done) | (go_simp; rfl)); intro gb217 hg w14 hbox hb; have n0_ := Aside0.mk (bb BK216.out hb); have n1_ := Aside0.mk (below_step bl hb); have n2_ := Aside0.mk (hbox); have n3_ := Aside0.mk (ge (w := w) hg); have n4_ := Aside0.mk (ge (w := w) hg); have n5_ := Aside0.mk (nl hg (bk BK216.out)); have n6_ := Aside0.mk (ng hg (bk BK216.out)); clear BK216; clear HB; have BK216 := n0_; have HB := n1_; have BK217 := n2_; have GE217 := n4_; have NB216_217 := n5_; have NB217_216 := n6_; clear n0_ n1_ n2_ n3_ n4_ n5_ n6_; clear hb hbox hg) | ((with_reducible refine gate_dst (N := 4) rfl ?_); refine box_event ?hg (N := 4) ?hd (cs := #[.bool false, .int .i64 0, .int .i64 0]) (t := 67) ?hr ?_; (case hd => rfl); (case hg => rfl); (case hr => first | (go_simp; done) | (go_simp; rfl)); intro gb218 hg w15 hbox hb; have n0_ := Aside0.mk (bb BK216.out hb); have n1_ := Aside0.mk (bb BK217.out hb); have n2_ := Aside0.mk (below_step bl hb); have n3_ := Aside0.mk (hbox); have n4_ := Aside0.mk (ge (w := w) hg); have n5_ := Aside0.mk (ge (w := w) hg); have n6_ := Aside0.mk (nl hg (bk BK216.out)); have n7_ := Aside0.mk (ng hg (bk BK216.out)); have n8_ := Aside0.mk (nl hg (bk BK217.out)); have n9_ := Aside0.mk (ng hg (bk BK217.out)); clear BK216; clear BK217; clear HB; have BK216 := n0_; have HB := n2_; have BK218 := n3_; have GE218 := n5_; have NB216_218 := n6_; have NB218_216 := n7_; have NB217_218 := n8_; have NB218_217 := n9_; clear n0_ n1_ n2_ n3_ n4_ n5_ n6_ n7_ n8_ n9_; clear hb hbox hg; obtain ⟨hcz18_0, hcz18_1, hcz18_2, -, -, -⟩ := bz3 BK216.out; obtain ⟨hcz20_0, hcz20_1, hcz20_2, hfz20_0, hfz20_1, hfz20_2⟩ := bz3 BK218.out))
 refine bodyPost_ret (results_cell_row rfl _ _ gb218 67 #[.bool false, .int .i64 a0_1, .int .i64 a0_2] (0, 0) _ rfl (by (with_reducible repeat (first | refine blk_drewN ?_ _ | refine blk_drew ?_ | refine blk_alloc ?_ _)); refine blk_put (cs := #[.bool false, .int .i64 a0_1, .int .i64 0]) ?_ 2 _ rfl; (with_reducible repeat (first | refine blk_drewN ?_ _ | refine blk_drew ?_ | refine blk_alloc ?_ _)); refine blk_put (cs := #[.bool false, .int .i64 0, .int .i64 0]) ?_ 1 _ rfl; (with_reducible repeat (first | refine blk_drewN ?_ _ | refine blk_drew ?_ | refine blk_alloc ?_ _)); refine blk_put (cs := #[.bool false, .int .i64 0, .int .i64 0]) ?_ 0 _ rfl; (with_reducible repeat (first | refine blk_drewN ?_ _ | refine blk_drew ?_ | refine blk_alloc ?_ _)); exact BK218.out) Tryd.underlying67 rfl (by kernel_rfl)) rfl ?_
 exact ⟨by first | rfl | (simp [errW_none, errW_some] <;> rfl) | (simp [*, errW_none, errW_some] <;> rfl), bl⟩

end Go.Proofs.YtlegjcagkmjfjaaDoor.PT
namespace Go.Proofs.YtlegjcagkmjfjaaDoor.PT
open Go.RowKit Go.Proofs.YtlegjcagkmjfjaaDoorW.PrintWords Go.Proofs.YtlegjcagkmjfjaaDoorW.PrintLast Go.Proofs.YtlegjcagkmjfjaaDoorW.PrintMore
attribute [local go_sem] max2_int min2_int max_two min_two max_three min_three max_four min_four   -- for this text's walks alone
set_option linter.unusedVariables false
set_option linter.unusedSimpArgs false

/-! ### clocks_Cycles: function 36 -/
def clocks_Cycles.l0 : Nat → ByteArray → ByteArray → List (S83) → Int → Int → Option (Int)
 | 0, _, _, _, _, _ => none
 | k + 1, x1, x2, x10, x11, x12 => if x12 < x11 then (if 0 ≤ x12 then (if x12 < (x10.length : Int) then (if ((rd_T83 x10 x12).f0).toList = ([] : List UInt8) then (if ((rd_T83 x10 x12).f1).toList = ([] : List UInt8) then (some ((rd_T83 x10 x12).f2)) else (if ((rd_T83 x10 x12).f1).toList = x2.toList then (some ((rd_T83 x10 x12).f2)) else (clocks_Cycles.l0 k x1 x2 x10 x11 (wrap64 (x12 + 1))))) else (if ((rd_T83 x10 x12).f0).toList = x1.toList then (if ((rd_T83 x10 x12).f1).toList = ([] : List UInt8) then (some ((rd_T83 x10 x12).f2)) else (if ((rd_T83 x10 x12).f1).toList = x2.toList then (some ((rd_T83 x10 x12).f2)) else (clocks_Cycles.l0 k x1 x2 x10 x11 (wrap64 (x12 + 1))))) else (clocks_Cycles.l0 k x1 x2 x10 x11 (wrap64 (x12 + 1))))) else (none)) else (none)) else (some 1)
def clocks_Cycles.f (k : Nat) (a0_0 : Int) (l0_1 : List (S78)) (l0_2 : List (S81)) (l0_3 : List (S83)) (a1 : ByteArray) (a2 : ByteArray) : Option (Int) := clocks_Cycles.l0 k a1 a2 l0_3 (l0_3.length : Int) 0
theorem clocks_Cycles.mono_l : ∀ k, (∀ y0 y1 y2 y3 y4, LeO (clocks_Cycles.l0 k y0 y1 y2 y3 y4) (clocks_Cycles.l0 (k + 1) y0 y1 y2 y3 y4))
 | 0 => fun _ _ _ _ _ r h => by simp [clocks_Cycles.l0] at h
 | k + 1 => by
  have ih0 := clocks_Cycles.mono_l k
  · intro y0 y1 y2 y3 y4
    unfold clocks_Cycles.l0
    repeat' first
    | (with_reducible exact ih0 _ _ _ _ _)
    | (with_reducible exact LeO.refl _)
    | (with_reducible exact LeO.none _)
    | (with_reducible refine LeO.ite ?_ ?_)
    | (with_reducible refine LeO.bind ?_ (fun _ => ?_))
theorem clocks_Cycles.mono : ∀ a0 a1 a2 a3 a4 a5 k, LeO (clocks_Cycles.f k a0 a1 a2 a3 a4 a5) (clocks_Cycles.f (k + 1) a0 a1 a2 a3 a4 a5) := by
 intro a0 a1 a2 a3 a4 a5 k
 have ih0 := clocks_Cycles.mono_l k
 unfold clocks_Cycles.f
 repeat' first
  | (with_reducible exact ih0 _ _ _ _ _)
  | (with_reducible exact LeO.refl _)
  | (with_reducible exact LeO.none _)
  | (with_reducible refine LeO.ite ?_ ?_)
  | (with_reducible refine LeO.bind ?_ (fun _ => ?_))
set_option maxHeartbeats 8000000 in
set_option maxRecDepth 100000 in
theorem clocks_Cycles.calls (k : Nat) (a0_0 : Int) (A0_1 : Option Addr) (c0_1 : Nat) (l0_1 : List (S78)) (A0_2 : Option Addr) (c0_2 : Nat) (l0_2 : List (S81)) (A0_3 : Option Addr) (c0_3 : Nat) (l0_3 : List (S83)) (a1 : ByteArray) (a2 : ByteArray) (r : Int) (w : World) (hr0_1 : Kd.C k78 w A0_1 l0_1.length l0_1) (hc0_1 : l0_1.length ≤ c0_1) (hr0_2 : Kd.C k81 w A0_2 l0_2.length l0_2) (hc0_2 : l0_2.length ≤ c0_2) (hr0_3 : Kd.C k83 w A0_3 l0_3.length l0_3) (hc0_3 : l0_3.length ≤ c0_3) (h : clocks_Cycles.f k a0_0 l0_1 l0_2 l0_3 a1 a2 = some r) :
 Calls Tryd.prog 36 #[.agg #[.int .i64 a0_0, .slice A0_1 l0_1.length c0_1, .slice A0_2 l0_2.length c0_2, .slice A0_3 l0_3.length c0_3], .string a1, .string a2] w fun e w' => e = .returned (.int .i64 r) ∧ Below w.heap.size w w' := by
 clear hr0_1 hc0_1
 clear hr0_2 hc0_2
 have HR0_3 := Aside0.mk hr0_3
 clear hr0_3 hc0_3
 have HB := Aside0.mk (Below.refl w.heap.size w)
 have H : (clocks_Cycles.l0 k a1 a2 l0_3 (l0_3.length : Int) 0) = some r := h
 clear h
 have H' := Aside0.mk H
 clear H
 go_enter Tryd.func36, Tryd.ntmps36
 go_wp2_with ((with_reducible refine gate_dst (N := 3) rfl ?_); refine box_event ?hg (N := 3) ?hd (cs := #[.int .i64 a0_0, .slice A0_1 l0_1.length c0_1, .slice A0_2 l0_2.length c0_2, .slice A0_3 l0_3.length c0_3]) (t := 37) ?hr ?_; (case hd => rfl); (case hg => rfl); (case hr => first | (go_simp; done) | (go_simp; rfl)); intro gb244 hg w4 hbox hb; have n0_ := Aside0.mk (below_step bl hb); have n1_ := Aside0.mk (hbox); have n2_ := Aside0.mk (ge (w := w) hg); have n3_ := Aside0.mk (ge (w := w) hg); clear HB; have HB := n0_; have BK244 := n1_; have GE244 := n3_; clear n0_ n1_ n2_ n3_; clear hb hbox hg; obtain ⟨hcz5_0, hcz5_1, hcz5_2, hcz5_3, hfz5_0, hfz5_1, hfz5_2, hfz5_3⟩ := bz4 BK244.out)
 go_loopg [12] k (fun kq v12 w' => ∃ (x12_1 : Int), v12 = .int .i64 x12_1 ∧ Aside0 (clocks_Cycles.l0 kq a1 a2 l0_3 (l0_3.length : Int) x12_1 = some r) ∧ Aside0 (kq ≤ k) ∧ Aside0 (w'.heap[gb244]? = some (.cells #[.int .i64 a0_0, (.slice A0_1 l0_1.length c0_1), (.slice A0_2 l0_2.length c0_2), (.slice A0_3 l0_3.length c0_3)] 37 (0, 0))) ∧ Aside0 (Below w.heap.size w w'))
 case atStart => exact ⟨(0), (by first | rfl | (simp; done) | (simp [*]; done)), H', ⟨Nat.le_refl _⟩, ⟨bk BK244.out⟩, ⟨bl⟩⟩
 clear H'
 clear hcz5_0 hcz5_1 hcz5_2 hcz5_3 hfz5_0 hfz5_1 hfz5_2 hfz5_3
 obtain ⟨x12_1, rfl, HA, HK1, BK244, HB⟩ := hrel
 cases gk with
 | zero => exact absurd HA.out (by simp [clocks_Cycles.l0])
 | succ k1 =>
  have H := HA.out
  clear HA
  simp only [clocks_Cycles.l0] at H
  by_cases c6 : x12_1 < (l0_3.length : Int)
  rotate_left
  · rw [if_neg c6] at H
    have c6b0 : decide (x12_1 < (l0_3.length : Int)) = false := decide_eq_false c6
    clear c6
    obtain rfl := Option.some.inj H
    go_wp2
    go_ret
    exact ⟨by first | rfl | (simp [errW_none, errW_some] <;> rfl) | (simp [*, errW_none, errW_some] <;> rfl), bl⟩
  rw [if_pos c6] at H
  have c6b0 : decide (x12_1 < (l0_3.length : Int)) = true := decide_eq_true c6
  clear c6
  by_cases c7 : 0 ≤ x12_1
  rotate_left
  · rw [if_neg c7] at H
    exact absurd H (by simp)
  rw [if_pos c7] at H
  have c7b0 : decide (0 ≤ x12_1) = true := decide_eq_true c7
  clear c7
  by_cases c8 : x12_1 < (l0_3.length : Int)
  rotate_left
  · rw [if_neg c8] at H
    exact absurd H (by simp)
  rw [if_pos c8] at H
  have c8b0 : decide (x12_1 < (l0_3.length : Int)) = true := decide_eq_true c8
  clear c8
  by_cases c9 : ((rd_T83 l0_3 x12_1).f0).toList = ([] : List UInt8)
  · rw [if_pos c9] at H
    have c9b0 : (((rd_T83 l0_3 x12_1).f0).toList == ([] : List UInt8)) = true := beq_iff_eq.mpr c9
    have c9b1 : (((rd_T83 l0_3 x12_1).f0).toList != ([] : List UInt8)) = false := bne_eq_false_iff_eq.mpr c9
    clear c9
    by_cases c10 : ((rd_T83 l0_3 x12_1).f1).toList = ([] : List UInt8)
    · rw [if_pos c10] at H
      have c10b0 : (((rd_T83 l0_3 x12_1).f1).toList == ([] : List UInt8)) = true := beq_iff_eq.mpr c10
      clear c10
      obtain rfl := Option.some.inj H
      have p245 : 0 ≤ (x12_1 : Int) := of_decide_eq_true (by first | (with_reducible assumption) | assumption)
      have q245 : x12_1 < (l0_3.length : Int) := of_decide_eq_true (by first | (with_reducible assumption) | assumption)
      obtain ⟨ad245, e245, hx245_0, hx245_1, hx245_2⟩ := at_T83 HR0_3.out x12_1 p245 q245
      cases e245
      replace hx245_0 := hc HB.out hx245_0
      replace hx245_1 := hc HB.out hx245_1
      replace hx245_2 := hc HB.out hx245_2
      replace p245 := eq_true p245
      replace q245 := eq_true q245
      go_wp2_with ((with_reducible refine gate_dst (N := 8) rfl ?_); refine box_event ?hg (N := 8) ?hd (cs := #[.string (⟨#[]⟩ : ByteArray), .string (⟨#[]⟩ : ByteArray), .int .i64 0]) (t := 83) ?hr ?_; (case hd => rfl); (case hg => rfl); (case hr => first | (go_simp; done) | (go_simp; rfl)); intro gb246 hg w11 hbox hb; have n0_ := Aside0.mk (bb BK244.out hb); have n1_ := Aside0.mk (below_step bl hb); have n2_ := Aside0.mk (hbox); have n3_ := Aside0.mk (ge (w := w) hg); have n4_ := Aside0.mk (ge (w := w) hg); have n5_ := Aside0.mk (nl hg (bk BK244.out)); have n6_ := Aside0.mk (ng hg (bk BK244.out)); clear BK244; clear HB; have HB := n1_; have BK246 := n2_; have GE246 := n4_; have NB244_246 := n5_; have NB246_244 := n6_; clear n0_ n1_ n2_ n3_ n4_ n5_ n6_; clear hb hbox hg; obtain ⟨hcz13_0, hcz13_1, hcz13_2, hfz13_0, hfz13_1, hfz13_2⟩ := bz3 BK246.out)
      go_ret
      exact ⟨by first | rfl | (simp [errW_none, errW_some] <;> rfl) | (simp [*, errW_none, errW_some] <;> rfl), bl⟩
    rw [if_neg c10] at H
    have c10b0 : (((rd_T83 l0_3 x12_1).f1).toList == ([] : List UInt8)) = false := beq_eq_false_iff_ne.mpr c10
    have c10b1 : (((rd_T83 l0_3 x12_1).f1).toList != ([] : List UInt8)) = true := bne_iff_ne.mpr c10
    by_cases c14 : ((rd_T83 l0_3 x12_1).f1).toList = a2.toList
    · rw [if_pos c14] at H
      have c14b0 : (((rd_T83 l0_3 x12_1).f1).toList == a2.toList) = true := beq_iff_eq.mpr c14
      clear c14
      obtain rfl := Option.some.inj H
      have p245 : 0 ≤ (x12_1 : Int) := of_decide_eq_true (by first | (with_reducible assumption) | assumption)
      have q245 : x12_1 < (l0_3.length : Int) := of_decide_eq_true (by first | (with_reducible assumption) | assumption)
      obtain ⟨ad245, e245, hx245_0, hx245_1, hx245_2⟩ := at_T83 HR0_3.out x12_1 p245 q245
      cases e245
      replace hx245_0 := hc HB.out hx245_0
      replace hx245_1 := hc HB.out hx245_1
      replace hx245_2 := hc HB.out hx245_2
      replace p245 := eq_true p245
      replace q245 := eq_true q245
      go_wp2_with ((with_reducible refine gate_dst (N := 8) rfl ?_); refine box_event ?hg (N := 8) ?hd (cs := #[.string (⟨#[]⟩ : ByteArray), .string (⟨#[]⟩ : ByteArray), .int .i64 0]) (t := 83) ?hr ?_; (case hd => rfl); (case hg => rfl); (case hr => first | (go_simp; done) | (go_simp; rfl)); intro gb246 hg w15 hbox hb; have n0_ := Aside0.mk (bb BK244.out hb); have n1_ := Aside0.mk (below_step bl hb); have n2_ := Aside0.mk (hbox); have n3_ := Aside0.mk (ge (w := w) hg); have n4_ := Aside0.mk (ge (w := w) hg); have n5_ := Aside0.mk (nl hg (bk BK244.out)); have n6_ := Aside0.mk (ng hg (bk BK244.out)); clear BK244; clear HB; have HB := n1_; have BK246 := n2_; have GE246 := n4_; have NB244_246 := n5_; have NB246_244 := n6_; clear n0_ n1_ n2_ n3_ n4_ n5_ n6_; clear hb hbox hg; obtain ⟨hcz17_0, hcz17_1, hcz17_2, hfz17_0, hfz17_1, hfz17_2⟩ := bz3 BK246.out)
      go_ret
      exact ⟨by first | rfl | (simp [errW_none, errW_some] <;> rfl) | (simp [*, errW_none, errW_some] <;> rfl), bl⟩
    rw [if_neg c14] at H
    have c14b0 : (((rd_T83 l0_3 x12_1).f1).toList == a2.toList) = false := beq_eq_false_iff_ne.mpr c14
    have H' := Aside0.mk H
    clear H
    have p245 : 0 ≤ (x12_1 : Int) := of_decide_eq_true (by first | (with_reducible assumption) | assumption)
    have q245 : x12_1 < (l0_3.length : Int) := of_decide_eq_true (by first | (with_reducible assumption) | assumption)
    obtain ⟨ad245, e245, hx245_0, hx245_1, hx245_2⟩ := at_T83 HR0_3.out x12_1 p245 q245
    cases e245
    replace hx245_0 := hc HB.out hx245_0
    replace hx245_1 := hc HB.out hx245_1
    replace hx245_2 := hc HB.out hx245_2
    replace p245 := eq_true p245
    replace q245 := eq_true q245
    go_wp2_with ((with_reducible refine gate_dst (N := 8) rfl ?_); refine box_event ?hg (N := 8) ?hd (cs := #[.string (⟨#[]⟩ : ByteArray), .string (⟨#[]⟩ : ByteArray), .int .i64 0]) (t := 83) ?hr ?_; (case hd => rfl); (case hg => rfl); (case hr => first | (go_simp; done) | (go_simp; rfl)); intro gb246 hg w18 hbox hb; have n0_ := Aside0.mk (bb BK244.out hb); have n1_ := Aside0.mk (below_step bl hb); have n2_ := Aside0.mk (hbox); have n3_ := Aside0.mk (ge (w := w) hg); have n4_ := Aside0.mk (ge (w := w) hg); have n5_ := Aside0.mk (nl hg (bk BK244.out)); have n6_ := Aside0.mk (ng hg (bk BK244.out)); clear BK244; clear HB; have BK244 := n0_; have HB := n1_; have BK246 := n2_; have GE246 := n4_; have NB244_246 := n5_; have NB246_244 := n6_; clear n0_ n1_ n2_ n3_ n4_ n5_ n6_; clear hb hbox hg; obtain ⟨hcz20_0, hcz20_1, hcz20_2, hfz20_0, hfz20_1, hfz20_2⟩ := bz3 BK246.out)
    go_roundg k1
    case measure => have := HK1.out; omega
    case rel => exact ⟨(wrap64 (x12_1 + 1)), (by first | rfl | (simp; done) | (simp [*]; done)), H', ⟨by have := HK1.out; omega⟩, ⟨bf BK244.out⟩, ⟨bl⟩⟩
  rw [if_neg c9] at H
  have c9b0 : (((rd_T83 l0_3 x12_1).f0).toList == ([] : List UInt8)) = false := beq_eq_false_iff_ne.mpr c9
  have c9b1 : (((rd_T83 l0_3 x12_1).f0).toList != ([] : List UInt8)) = true := bne_iff_ne.mpr c9
  by_cases c21 : ((rd_T83 l0_3 x12_1).f0).toList = a1.toList
  rotate_left
  · rw [if_neg c21] at H
    have c21b0 : (((rd_T83 l0_3 x12_1).f0).toList == a1.toList) = false := beq_eq_false_iff_ne.mpr c21
    have H' := Aside0.mk H
    clear H
    have p245 : 0 ≤ (x12_1 : Int) := of_decide_eq_true (by first | (with_reducible assumption) | assumption)
    have q245 : x12_1 < (l0_3.length : Int) := of_decide_eq_true (by first | (with_reducible assumption) | assumption)
    obtain ⟨ad245, e245, hx245_0, hx245_1, hx245_2⟩ := at_T83 HR0_3.out x12_1 p245 q245
    cases e245
    replace hx245_0 := hc HB.out hx245_0
    replace hx245_1 := hc HB.out hx245_1
    replace hx245_2 := hc HB.out hx245_2
    replace p245 := eq_true p245
    replace q245 := eq_true q245
    go_wp2_with ((with_reducible refine gate_dst (N := 8) rfl ?_); refine box_event ?hg (N := 8) ?hd (cs := #[.string (⟨#[]⟩ : ByteArray), .string (⟨#[]⟩ : ByteArray), .int .i64 0]) (t := 83) ?hr ?_; (case hd => rfl); (case hg => rfl); (case hr => first | (go_simp; done) | (go_simp; rfl)); intro gb246 hg w33 hbox hb; have n0_ := Aside0.mk (bb BK244.out hb); have n1_ := Aside0.mk (below_step bl hb); have n2_ := Aside0.mk (hbox); have n3_ := Aside0.mk (ge (w := w) hg); have n4_ := Aside0.mk (ge (w := w) hg); have n5_ := Aside0.mk (nl hg (bk BK244.out)); have n6_ := Aside0.mk (ng hg (bk BK244.out)); clear BK244; clear HB; have BK244 := n0_; have HB := n1_; have BK246 := n2_; have GE246 := n4_; have NB244_246 := n5_; have NB246_244 := n6_; clear n0_ n1_ n2_ n3_ n4_ n5_ n6_; clear hb hbox hg; obtain ⟨hcz35_0, hcz35_1, hcz35_2, hfz35_0, hfz35_1, hfz35_2⟩ := bz3 BK246.out)
    go_roundg k1
    case measure => have := HK1.out; omega
    case rel => exact ⟨(wrap64 (x12_1 + 1)), (by first | rfl | (simp; done) | (simp [*]; done)), H', ⟨by have := HK1.out; omega⟩, ⟨bf BK244.out⟩, ⟨bl⟩⟩
  rw [if_pos c21] at H
  have c21b0 : (((rd_T83 l0_3 x12_1).f0).toList == a1.toList) = true := beq_iff_eq.mpr c21
  have c21b1 : (((rd_T83 l0_3 x12_1).f0).toList != a1.toList) = false := bne_eq_false_iff_eq.mpr c21
  clear c21
  by_cases c22 : ((rd_T83 l0_3 x12_1).f1).toList = ([] : List UInt8)
  · rw [if_pos c22] at H
    have c22b0 : (((rd_T83 l0_3 x12_1).f1).toList == ([] : List UInt8)) = true := beq_iff_eq.mpr c22
    clear c22
    obtain rfl := Option.some.inj H
    have p245 : 0 ≤ (x12_1 : Int) := of_decide_eq_true (by first | (with_reducible assumption) | assumption)
    have q245 : x12_1 < (l0_3.length : Int) := of_decide_eq_true (by first | (with_reducible assumption) | assumption)
    obtain ⟨ad245, e245, hx245_0, hx245_1, hx245_2⟩ := at_T83 HR0_3.out x12_1 p245 q245
    cases e245
    replace hx245_0 := hc HB.out hx245_0
    replace hx245_1 := hc HB.out hx245_1
    replace hx245_2 := hc HB.out hx245_2
    replace p245 := eq_true p245
    replace q245 := eq_true q245
    go_wp2_with ((with_reducible refine gate_dst (N := 8) rfl ?_); refine box_event ?hg (N := 8) ?hd (cs := #[.string (⟨#[]⟩ : ByteArray), .string (⟨#[]⟩ : ByteArray), .int .i64 0]) (t := 83) ?hr ?_; (case hd => rfl); (case hg => rfl); (case hr => first | (go_simp; done) | (go_simp; rfl)); intro gb246 hg w23 hbox hb; have n0_ := Aside0.mk (bb BK244.out hb); have n1_ := Aside0.mk (below_step bl hb); have n2_ := Aside0.mk (hbox); have n3_ := Aside0.mk (ge (w := w) hg); have n4_ := Aside0.mk (ge (w := w) hg); have n5_ := Aside0.mk (nl hg (bk BK244.out)); have n6_ := Aside0.mk (ng hg (bk BK244.out)); clear BK244; clear HB; have HB := n1_; have BK246 := n2_; have GE246 := n4_; have NB244_246 := n5_; have NB246_244 := n6_; clear n0_ n1_ n2_ n3_ n4_ n5_ n6_; clear hb hbox hg; obtain ⟨hcz25_0, hcz25_1, hcz25_2, hfz25_0, hfz25_1, hfz25_2⟩ := bz3 BK246.out)
    go_ret
    exact ⟨by first | rfl | (simp [errW_none, errW_some] <;> rfl) | (simp [*, errW_none, errW_some] <;> rfl), bl⟩
  rw [if_neg c22] at H
  have c22b0 : (((rd_T83 l0_3 x12_1).f1).toList == ([] : List UInt8)) = false := beq_eq_false_iff_ne.mpr c22
  have c22b1 : (((rd_T83 l0_3 x12_1).f1).toList != ([] : List UInt8)) = true := bne_iff_ne.mpr c22
  by_cases c26 : ((rd_T83 l0_3 x12_1).f1).toList = a2.toList
  · rw [if_pos c26] at H
    have c26b0 : (((rd_T83 l0_3 x12_1).f1).toList == a2.toList) = true := beq_iff_eq.mpr c26
    clear c26
    obtain rfl := Option.some.inj H
    have p245 : 0 ≤ (x12_1 : Int) := of_decide_eq_true (by first | (with_reducible assumption) | assumption)
    have q245 : x12_1 < (l0_3.length : Int) := of_decide_eq_true (by first | (with_reducible assumption) | assumption)
    obtain ⟨ad245, e245, hx245_0, hx245_1, hx245_2⟩ := at_T83 HR0_3.out x12_1 p245 q245
    cases e245
    replace hx245_0 := hc HB.out hx245_0
    replace hx245_1 := hc HB.out hx245_1
    replace hx245_2 := hc HB.out hx245_2
    replace p245 := eq_true p245
    replace q245 := eq_true q245
    go_wp2_with ((with_reducible refine gate_dst (N := 8) rfl ?_); refine box_event ?hg (N := 8) ?hd (cs := #[.string (⟨#[]⟩ : ByteArray), .string (⟨#[]⟩ : ByteArray), .int .i64 0]) (t := 83) ?hr ?_; (case hd => rfl); (case hg => rfl); (case hr => first | (go_simp; done) | (go_simp; rfl)); intro gb246 hg w27 hbox hb; have n0_ := Aside0.mk (bb BK244.out hb); have n1_ := Aside0.mk (below_step bl hb); have n2_ := Aside0.mk (hbox); have n3_ := Aside0.mk (ge (w := w) hg); have n4_ := Aside0.mk (ge (w := w) hg); have n5_ := Aside0.mk (nl hg (bk BK244.out)); have n6_ := Aside0.mk (ng hg (bk BK244.out)); clear BK244; clear HB; have HB := n1_; have BK246 := n2_; have GE246 := n4_; have NB244_246 := n5_; have NB246_244 := n6_; clear n0_ n1_ n2_ n3_ n4_ n5_ n6_; clear hb hbox hg; obtain ⟨hcz29_0, hcz29_1, hcz29_2, hfz29_0, hfz29_1, hfz29_2⟩ := bz3 BK246.out)
    go_ret
    exact ⟨by first | rfl | (simp [errW_none, errW_some] <;> rfl) | (simp [*, errW_none, errW_some] <;> rfl), bl⟩
  rw [if_neg c26] at H
  have c26b0 : (((rd_T83 l0_3 x12_1).f1).toList == a2.toList) = false := beq_eq_false_iff_ne.mpr c26
  have H' := Aside0.mk H
  clear H
  have p245 : 0 ≤ (x12_1 : Int) := of_decide_eq_true (by first | (with_reducible assumption) | assumption)
  have q245 : x12_1 < (l0_3.length : Int) := of_decide_eq_true (by first | (with_reducible assumption) | assumption)
  obtain ⟨ad245, e245, hx245_0, hx245_1, hx245_2⟩ := at_T83 HR0_3.out x12_1 p245 q245
  cases e245
  replace hx245_0 := hc HB.out hx245_0
  replace hx245_1 := hc HB.out hx245_1
  replace hx245_2 := hc HB.out hx245_2
  replace p245 := eq_true p245
  replace q245 := eq_true q245
  go_wp2_with ((with_reducible refine gate_dst (N := 8) rfl ?_); refine box_event ?hg (N := 8) ?hd (cs := #[.string (⟨#[]⟩ : ByteArray), .string (⟨#[]⟩ : ByteArray), .int .i64 0]) (t := 83) ?hr ?_; (case hd => rfl); (case hg => rfl); (case hr => first | (go_simp; done) | (go_simp; rfl)); intro gb246 hg w30 hbox hb; have n0_ := Aside0.mk (bb BK244.out hb); have n1_ := Aside0.mk (below_step bl hb); have n2_ := Aside0.mk (hbox); have n3_ := Aside0.mk (ge (w := w) hg); have n4_ := Aside0.mk (ge (w := w) hg); have n5_ := Aside0.mk (nl hg (bk BK244.out)); have n6_ := Aside0.mk (ng hg (bk BK244.out)); clear BK244; clear HB; have BK244 := n0_; have HB := n1_; have BK246 := n2_; have GE246 := n4_; have NB244_246 := n5_; have NB246_244 := n6_; clear n0_ n1_ n2_ n3_ n4_ n5_ n6_; clear hb hbox hg; obtain ⟨hcz32_0, hcz32_1, hcz32_2, hfz32_0, hfz32_1, hfz32_2⟩ := bz3 BK246.out)
  go_roundg k1
  case measure => have := HK1.out; omega
  case rel => exact ⟨(wrap64 (x12_1 + 1)), (by first | rfl | (simp; done) | (simp [*]; done)), H', ⟨by have := HK1.out; omega⟩, ⟨bf BK244.out⟩, ⟨bl⟩⟩

end Go.Proofs.YtlegjcagkmjfjaaDoor.PT
namespace Go.Proofs.YtlegjcagkmjfjaaDoor.PT
open Go.RowKit Go.Proofs.YtlegjcagkmjfjaaDoorW.PrintWords Go.Proofs.YtlegjcagkmjfjaaDoorW.PrintLast Go.Proofs.YtlegjcagkmjfjaaDoorW.PrintMore
attribute [local go_sem] max2_int min2_int max_two min_two max_three min_three max_four min_four   -- for this text's walks alone
set_option linter.unusedVariables false
set_option linter.unusedSimpArgs false

/-! ### clocks_Before: function 40 -/
def clocks_Before.l0 : Nat → ByteArray → List (S81) → Int → Int → Option (Int)
 | 0, _, _, _, _ => none
 | k + 1, x1, x8, x9, x10 => if x10 < x9 then (if 0 ≤ x10 then (if x10 < (x8.length : Int) then (if ((rd_T81 x8 x10).f0).toList = x1.toList then (some ((rd_T81 x8 x10).f1)) else (clocks_Before.l0 k x1 x8 x9 (wrap64 (x10 + 1)))) else (none)) else (none)) else (some 1)
def clocks_Before.f (k : Nat) (a0_0 : Int) (l0_1 : List (S78)) (l0_2 : List (S81)) (l0_3 : List (S83)) (a1 : ByteArray) : Option (Int) := clocks_Before.l0 k a1 l0_2 (l0_2.length : Int) 0
theorem clocks_Before.mono_l : ∀ k, (∀ y0 y1 y2 y3, LeO (clocks_Before.l0 k y0 y1 y2 y3) (clocks_Before.l0 (k + 1) y0 y1 y2 y3))
 | 0 => fun _ _ _ _ r h => by simp [clocks_Before.l0] at h
 | k + 1 => by
  have ih0 := clocks_Before.mono_l k
  · intro y0 y1 y2 y3
    unfold clocks_Before.l0
    repeat' first
    | (with_reducible exact ih0 _ _ _ _)
    | (with_reducible exact LeO.refl _)
    | (with_reducible exact LeO.none _)
    | (with_reducible refine LeO.ite ?_ ?_)
    | (with_reducible refine LeO.bind ?_ (fun _ => ?_))
theorem clocks_Before.mono : ∀ a0 a1 a2 a3 a4 k, LeO (clocks_Before.f k a0 a1 a2 a3 a4) (clocks_Before.f (k + 1) a0 a1 a2 a3 a4) := by
 intro a0 a1 a2 a3 a4 k
 have ih0 := clocks_Before.mono_l k
 unfold clocks_Before.f
 repeat' first
  | (with_reducible exact ih0 _ _ _ _)
  | (with_reducible exact LeO.refl _)
  | (with_reducible exact LeO.none _)
  | (with_reducible refine LeO.ite ?_ ?_)
  | (with_reducible refine LeO.bind ?_ (fun _ => ?_))
set_option maxHeartbeats 8000000 in
set_option maxRecDepth 100000 in
theorem clocks_Before.calls (k : Nat) (a0_0 : Int) (A0_1 : Option Addr) (c0_1 : Nat) (l0_1 : List (S78)) (A0_2 : Option Addr) (c0_2 : Nat) (l0_2 : List (S81)) (A0_3 : Option Addr) (c0_3 : Nat) (l0_3 : List (S83)) (a1 : ByteArray) (r : Int) (w : World) (hr0_1 : Kd.C k78 w A0_1 l0_1.length l0_1) (hc0_1 : l0_1.length ≤ c0_1) (hr0_2 : Kd.C k81 w A0_2 l0_2.length l0_2) (hc0_2 : l0_2.length ≤ c0_2) (hr0_3 : Kd.C k83 w A0_3 l0_3.length l0_3) (hc0_3 : l0_3.length ≤ c0_3) (h : clocks_Before.f k a0_0 l0_1 l0_2 l0_3 a1 = some r) :
 Calls Tryd.prog 40 #[.agg #[.int .i64 a0_0, .slice A0_1 l0_1.length c0_1, .slice A0_2 l0_2.length c0_2, .slice A0_3 l0_3.length c0_3], .string a1] w fun e w' => e = .returned (.int .i64 r) ∧ Below w.heap.size w w' := by
 clear hr0_1 hc0_1
 have HR0_2 := Aside0.mk hr0_2
 clear hr0_2 hc0_2
 clear hr0_3 hc0_3
 have HB := Aside0.mk (Below.refl w.heap.size w)
 have H : (clocks_Before.l0 k a1 l0_2 (l0_2.length : Int) 0) = some r := h
 clear h
 have H' := Aside0.mk H
 clear H
 go_enter Tryd.func40, Tryd.ntmps40
 go_wp2_with ((with_reducible refine gate_dst (N := 2) rfl ?_); refine box_event ?hg (N := 2) ?hd (cs := #[.int .i64 a0_0, .slice A0_1 l0_1.length c0_1, .slice A0_2 l0_2.length c0_2, .slice A0_3 l0_3.length c0_3]) (t := 37) ?hr ?_; (case hd => rfl); (case hg => rfl); (case hr => first | (go_simp; done) | (go_simp; rfl)); intro gb254 hg w3 hbox hb; have n0_ := Aside0.mk (below_step bl hb); have n1_ := Aside0.mk (hbox); have n2_ := Aside0.mk (ge (w := w) hg); have n3_ := Aside0.mk (ge (w := w) hg); clear HB; have HB := n0_; have BK254 := n1_; have GE254 := n3_; clear n0_ n1_ n2_ n3_; clear hb hbox hg; obtain ⟨hcz4_0, hcz4_1, hcz4_2, hcz4_3, hfz4_0, hfz4_1, hfz4_2, hfz4_3⟩ := bz4 BK254.out)
 go_loopg [10] k (fun kq v10 w' => ∃ (x10_1 : Int), v10 = .int .i64 x10_1 ∧ Aside0 (clocks_Before.l0 kq a1 l0_2 (l0_2.length : Int) x10_1 = some r) ∧ Aside0 (kq ≤ k) ∧ Aside0 (w'.heap[gb254]? = some (.cells #[.int .i64 a0_0, (.slice A0_1 l0_1.length c0_1), (.slice A0_2 l0_2.length c0_2), (.slice A0_3 l0_3.length c0_3)] 37 (0, 0))) ∧ Aside0 (Below w.heap.size w w'))
 case atStart => exact ⟨(0), (by first | rfl | (simp; done) | (simp [*]; done)), H', ⟨Nat.le_refl _⟩, ⟨bk BK254.out⟩, ⟨bl⟩⟩
 clear H'
 clear hcz4_0 hcz4_1 hcz4_2 hcz4_3 hfz4_0 hfz4_1 hfz4_2 hfz4_3
 obtain ⟨x10_1, rfl, HA, HK1, BK254, HB⟩ := hrel
 cases gk with
 | zero => exact absurd HA.out (by simp [clocks_Before.l0])
 | succ k1 =>
  have H := HA.out
  clear HA
  simp only [clocks_Before.l0] at H
  by_cases c5 : x10_1 < (l0_2.length : Int)
  rotate_left
  · rw [if_neg c5] at H
    have c5b0 : decide (x10_1 < (l0_2.length : Int)) = false := decide_eq_false c5
    clear c5
    obtain rfl := Option.some.inj H
    go_wp2
    go_ret
    exact ⟨by first | rfl | (simp [errW_none, errW_some] <;> rfl) | (simp [*, errW_none, errW_some] <;> rfl), bl⟩
  rw [if_pos c5] at H
  have c5b0 : decide (x10_1 < (l0_2.length : Int)) = true := decide_eq_true c5
  clear c5
  by_cases c6 : 0 ≤ x10_1
  rotate_left
  · rw [if_neg c6] at H
    exact absurd H (by simp)
  rw [if_pos c6] at H
  have c6b0 : decide (0 ≤ x10_1) = true := decide_eq_true c6
  clear c6
  by_cases c7 : x10_1 < (l0_2.length : Int)
  rotate_left
  · rw [if_neg c7] at H
    exact absurd H (by simp)
  rw [if_pos c7] at H
  have c7b0 : decide (x10_1 < (l0_2.length : Int)) = true := decide_eq_true c7
  clear c7
  by_cases c8 : ((rd_T81 l0_2 x10_1).f0).toList = a1.toList
  · rw [if_pos c8] at H
    have c8b0 : (((rd_T81 l0_2 x10_1).f0).toList == a1.toList) = true := beq_iff_eq.mpr c8
    clear c8
    obtain rfl := Option.some.inj H
    have p255 : 0 ≤ (x10_1 : Int) := of_decide_eq_true (by first | (with_reducible assumption) | assumption)
    have q255 : x10_1 < (l0_2.length : Int) := of_decide_eq_true (by first | (with_reducible assumption) | assumption)
    obtain ⟨ad255, e255, hx255_0, hx255_1⟩ := at_T81 HR0_2.out x10_1 p255 q255
    cases e255
    replace hx255_0 := hc HB.out hx255_0
    replace hx255_1 := hc HB.out hx255_1
    replace p255 := eq_true p255
    replace q255 := eq_true q255
    go_wp2_with ((with_reducible refine gate_dst (N := 6) rfl ?_); refine box_event ?hg (N := 6) ?hd (cs := #[.string (⟨#[]⟩ : ByteArray), .int .i64 0]) (t := 81) ?hr ?_; (case hd => rfl); (case hg => rfl); (case hr => first | (go_simp; done) | (go_simp; rfl)); intro gb256 hg w9 hbox hb; have n0_ := Aside0.mk (bb BK254.out hb); have n1_ := Aside0.mk (below_step bl hb); have n2_ := Aside0.mk (hbox); have n3_ := Aside0.mk (ge (w := w) hg); have n4_ := Aside0.mk (ge (w := w) hg); have n5_ := Aside0.mk (nl hg (bk BK254.out)); have n6_ := Aside0.mk (ng hg (bk BK254.out)); clear BK254; clear HB; have HB := n1_; have BK256 := n2_; have GE256 := n4_; have NB254_256 := n5_; have NB256_254 := n6_; clear n0_ n1_ n2_ n3_ n4_ n5_ n6_; clear hb hbox hg; obtain ⟨hcz11_0, hcz11_1, hfz11_0, hfz11_1⟩ := bz2 BK256.out)
    go_ret
    exact ⟨by first | rfl | (simp [errW_none, errW_some] <;> rfl) | (simp [*, errW_none, errW_some] <;> rfl), bl⟩
  rw [if_neg c8] at H
  have c8b0 : (((rd_T81 l0_2 x10_1).f0).toList == a1.toList) = false := beq_eq_false_iff_ne.mpr c8
  have H' := Aside0.mk H
  clear H
  have p255 : 0 ≤ (x10_1 : Int) := of_decide_eq_true (by first | (with_reducible assumption) | assumption)
  have q255 : x10_1 < (l0_2.length : Int) := of_decide_eq_true (by first | (with_reducible assumption) | assumption)
  obtain ⟨ad255, e255, hx255_0, hx255_1⟩ := at_T81 HR0_2.out x10_1 p255 q255
  cases e255
  replace hx255_0 := hc HB.out hx255_0
  replace hx255_1 := hc HB.out hx255_1
  replace p255 := eq_true p255
  replace q255 := eq_true q255
  go_wp2_with ((with_reducible refine gate_dst (N := 6) rfl ?_); refine box_event ?hg (N := 6) ?hd (cs := #[.string (⟨#[]⟩ : ByteArray), .int .i64 0]) (t := 81) ?hr ?_; (case hd => rfl); (case hg => rfl); (case hr => first | (go_simp; done) | (go_simp; rfl)); intro gb256 hg w12 hbox hb; have n0_ := Aside0.mk (bb BK254.out hb); have n1_ := Aside0.mk (below_step bl hb); have n2_ := Aside0.mk (hbox); have n3_ := Aside0.mk (ge (w := w) hg); have n4_ := Aside0.mk (ge (w := w) hg); have n5_ := Aside0.mk (nl hg (bk BK254.out)); have n6_ := Aside0.mk (ng hg (bk BK254.out)); clear BK254; clear HB; have BK254 := n0_; have HB := n1_; have BK256 := n2_; have GE256 := n4_; have NB254_256 := n5_; have NB256_254 := n6_; clear n0_ n1_ n2_ n3_ n4_ n5_ n6_; clear hb hbox hg; obtain ⟨hcz14_0, hcz14_1, hfz14_0, hfz14_1⟩ := bz2 BK256.out)
  go_roundg k1
  case measure => have := HK1.out; omega
  case rel => exact ⟨(wrap64 (x10_1 + 1)), (by first | rfl | (simp; done) | (simp [*]; done)), H', ⟨by have := HK1.out; omega⟩, ⟨bf BK254.out⟩, ⟨bl⟩⟩

end Go.Proofs.YtlegjcagkmjfjaaDoor.PT
