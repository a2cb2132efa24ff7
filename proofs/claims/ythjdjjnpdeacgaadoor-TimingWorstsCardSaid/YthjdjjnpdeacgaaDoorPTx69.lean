/- The least slacks of a report. -/
import Derived.Test.YthjdjjnpdeacgaaDoorPTx38
import Derived.LoopN
set_option linter.unusedSectionVars false
namespace Go.Proofs.YthjdjjnpdeacgaaDoor.PT
open Go.RowKit Go.Proofs.YthjdjjnpdeacgaaDoorW.PrintWords Go.Proofs.YthjdjjnpdeacgaaDoorW.PrintLast Go.Proofs.YthjdjjnpdeacgaaDoorW.PrintMore
set_option linter.unusedVariables false
set_option linter.unusedSimpArgs false

/-- The smaller slack. -/
def lessV (s : S25) (v o : Int) : S25 := if s.f0 = true ∧ ¬ v < s.f1 then s else ⟨true, v, o⟩
theorem lessV_eq (s : S25) (v o : Int) : timing_Slack_less.f s.f0 s.f1 s.f2 v o = some ((lessV s v o).f0, (lessV s v o).f1, (lessV s v o).f2) := by
  unfold timing_Slack_less.f lessV
  by_cases h : s.f0 = true
  · by_cases c : v < s.f1
    · simp [h, c]
    · simp [h, c]
  · simp [h]
def takeV (s x : S25) : S25 := if x.f0 = true then lessV s x.f1 x.f2 else s
def worstV (l : List S27) : S25 × S25 := l.foldl (fun p x => (takeV p.1 x.f2, takeV p.2 x.f3)) (⟨false, 0, 0⟩, ⟨false, 0, 0⟩)
theorem worstV_next (l : List S27) (i : Int) (h0 : 0 ≤ i) (h1 : i < l.length) : worstV (l.take (i + 1).toNat) = (takeV (worstV (l.take i.toNat)).1 (rd_T27 l i).f2, takeV (worstV (l.take i.toNat)).2 (rd_T27 l i).f3) := by
  have hn : i.toNat < l.length := by omega
  have e : l.take (i + 1).toNat = l.take i.toNat ++ [rd_T27 l i] := by
    rw [show (i + 1).toNat = i.toNat + 1 by omega, List.take_add_one, List.getElem?_eq_getElem hn]
    unfold rd_T27
    rw [List.getD_eq_getElem?_getD, List.getElem?_eq_getElem hn]
    rfl
  rw [e]
  unfold worstV
  rw [List.foldl_append]
  rfl
abbrev slC (s : S25) : Array Value := #[.bool s.f0, .int .i64 s.f1, .int .i64 s.f2]
abbrev enC (f0 f1 : Int) (s h : S25) : Array Value := #[.int .i64 f0, .int .i64 f1, .bool s.f0, .int .i64 s.f1, .int .i64 s.f2, .bool h.f0, .int .i64 h.f1, .int .i64 h.f2]
theorem enCells {w : World} {g : Nat} {f0 f1 : Int} {s h : S25} (X : w.heap[g]? = some (.cells (enC f0 f1 s h) 27 (0, 0))) : w.cell? ⟨g, 2, none⟩ = some (.bool s.f0) ∧ w.cell? ⟨g, 3, none⟩ = some (.int .i64 s.f1) ∧ w.cell? ⟨g, 4, none⟩ = some (.int .i64 s.f2) ∧ w.cell? ⟨g, 5, none⟩ = some (.bool h.f0) ∧ w.cell? ⟨g, 6, none⟩ = some (.int .i64 h.f1) ∧ w.cell? ⟨g, 7, none⟩ = some (.int .i64 h.f2) :=
  ⟨(blk_cell X 2).trans rfl, (blk_cell X 3).trans rfl, (blk_cell X 4).trans rfl, (blk_cell X 5).trans rfl, (blk_cell X 6).trans rfl, (blk_cell X 7).trans rfl⟩
theorem slCells {w : World} {g : Nat} {s : S25} (X : w.heap[g]? = some (.cells (slC s) 25 (0, 0))) : w.cell? ⟨g, 0, none⟩ = some (.bool s.f0) ∧ w.cell? ⟨g, 1, none⟩ = some (.int .i64 s.f1) ∧ w.cell? ⟨g, 2, none⟩ = some (.int .i64 s.f2) :=
  ⟨(blk_cell X 0).trans rfl, (blk_cell X 1).trans rfl, (blk_cell X 2).trans rfl⟩
set_option maxHeartbeats 8000000 in
set_option maxRecDepth 100000 in
theorem worst_c (A : Option Addr) (c : Nat) (l : List S27) (w : World) (hr : Kd.C k27 w A l.length l) (hc : l.length ≤ c) :
    Calls Tryd.prog 6 #[.slice A l.length c] w fun e w' => e = .returned (.tuple #[.agg (slC (worstV l).1), .agg (slC (worstV l).2)]) ∧ Below w.heap.size w w' := by
  have hu25 := Tryd.underlying25
  have hu27 := Tryd.underlying27
  have h63 : l.length ≤ 9223372036854775807 := hr.2.1
  have HR := Aside0.mk hr
  have HB0 := Aside0.mk (below_alloc (below_alloc (Below.refl w.heap.size w) (.cells (slC ⟨false, 0, 0⟩) 25)) (.cells (slC ⟨false, 0, 0⟩) 25))
  have BS0 := Aside0.mk (blk_alloc (blk_new w (.cells (slC ⟨false, 0, 0⟩) 25)) (.cells (slC ⟨false, 0, 0⟩) 25))
  have BH0' := blk_new (w.alloc (.cells (slC ⟨false, 0, 0⟩) 25)) (.cells (slC ⟨false, 0, 0⟩) 25)
  have hsz : (w.alloc (.cells (slC ⟨false, 0, 0⟩) 25)).heap.size = w.heap.size + 1 := by simp
  rw [hsz] at BH0'
  have BH0 := Aside0.mk BH0'
  clear hr hsz BH0'
  go_enter Tryd.func6, Tryd.ntmps6
  go_wp2_with fail
  go_loopw [8] (fun v wr => ∃ (i : Int) (s h : S25), 0 ≤ i ∧ i ≤ l.length ∧ v = .int .i64 i ∧ Aside0 (Below w.heap.size w wr) ∧ Aside0 (wr.heap[w.heap.size]? = some (.cells (slC s) 25 (0, 0))) ∧ Aside0 (wr.heap[w.heap.size + 1]? = some (.cells (slC h) 25 (0, 0))) ∧ Aside0 (worstV (l.take i.toNat) = (s, h))) (fun v _ => (l.length - (intOf v).toNat))
  case atStart => exact ⟨0, ⟨false, 0, 0⟩, ⟨false, 0, 0⟩, by omega, by omega, rfl, HB0, BS0, BH0, ⟨rfl⟩⟩
  case round =>
    clear HB0 BS0 BH0
    obtain ⟨i, s, h, h0, h1, rfl, HB1, BS1, BH1, HV⟩ := hrel
    by_cases hlt : i < l.length
    · obtain ⟨ad, rfl, d0, d1, d2, d3, d4, d5, d6, d7⟩ := at_T27 (Kd.C_below HR.out HB1.out) i h0 hlt
      have e1 : decide (i < (l.length : Int)) = true := decide_eq_true hlt
      have HN := Aside0.mk (worstV_next l i h0 hlt)
      rw [HV.out] at HN
      generalize rd_T27 l i = x at *
      clear HV
      have LH := Aside0.mk (blk_lt BH1.out)
      cases hs : x.f2.f0 with
      | true =>
        cases hh : x.f3.f0 with
        | true =>
          have KS := Aside0.mk hs
          have KH := Aside0.mk hh
          rw [hs] at d2
          rw [hh] at d5
          have BE2 : Aside0 ((wr.alloc (.cells #[.int .i64 x.f0, .int .i64 x.f1, .bool true, .int .i64 x.f2.f1, .int .i64 x.f2.f2, .bool true, .int .i64 x.f3.f1, .int .i64 x.f3.f2] 27)).heap[wr.heap.size]? = some (.cells #[.int .i64 x.f0, .int .i64 x.f1, .bool true, .int .i64 x.f2.f1, .int .i64 x.f2.f2, .bool true, .int .i64 x.f3.f1, .int .i64 x.f3.f2] 27 (0, 0))) := ⟨blk_new wr _⟩
          have HB2 := Aside0.mk (below_alloc HB1.out (.cells #[.int .i64 x.f0, .int .i64 x.f1, .bool true, .int .i64 x.f2.f1, .int .i64 x.f2.f2, .bool true, .int .i64 x.f3.f1, .int .i64 x.f3.f2] 27))
          have BS2 := Aside0.mk (blk_alloc BS1.out (.cells #[.int .i64 x.f0, .int .i64 x.f1, .bool true, .int .i64 x.f2.f1, .int .i64 x.f2.f2, .bool true, .int .i64 x.f3.f1, .int .i64 x.f3.f2] 27))
          have BH2 := Aside0.mk (blk_alloc BH1.out (.cells #[.int .i64 x.f0, .int .i64 x.f1, .bool true, .int .i64 x.f2.f1, .int .i64 x.f2.f2, .bool true, .int .i64 x.f3.f1, .int .i64 x.f3.f2] 27))
          clear HB1 BS1 BH1 hs hh
          go_wp2_with fail
          clear d0 d1 d2 d3 d4 d5 d6 d7
          refine (timing_Slack_less.calls w.heap.size s.f0 s.f1 s.f2 x.f2.f1 x.f2.f2 _ _ _ w _ ⟨BS2.out, Nat.le_refl _⟩ HB2.out (lessV_eq s x.f2.f1 x.f2.f2)).mono ?_
          rintro e w3 ⟨rfl, hI3, hB3, hK3⟩
          have HB3 := Aside0.mk hB3
          have BS3 : Aside0 (w3.heap[w.heap.size]? = some (.cells (slC (lessV s x.f2.f1 x.f2.f2)) 25 (0, 0))) := ⟨hI3.1⟩
          have BH3 := Aside0.mk ((hK3.2 (w.heap.size + 1) (blk_lt BH2.out) (Nat.succ_ne_self _) (by simp)).trans BH2.out)
          have BE3 := Aside0.mk ((hK3.2 wr.heap.size (blk_lt BE2.out) (Nat.ne_of_gt (Nat.lt_of_succ_lt LH.out)) (by simp)).trans BE2.out)
          clear hI3 hB3 hK3 HB2 BS2 BH2 BE2
          have c5 : w3.cell? ⟨wr.heap.size, 5, none⟩ = some (.bool true) := (blk_cell BE3.out 5).trans rfl
          have c6 : w3.cell? ⟨wr.heap.size, 6, none⟩ = some (.int .i64 x.f3.f1) := (blk_cell BE3.out 6).trans rfl
          have c7 : w3.cell? ⟨wr.heap.size, 7, none⟩ = some (.int .i64 x.f3.f2) := (blk_cell BE3.out 7).trans rfl
          go_wp2_with fail
          clear c5 c6 c7
          refine (timing_Slack_less.calls (w.heap.size + 1) h.f0 h.f1 h.f2 x.f3.f1 x.f3.f2 _ _ _ w _ ⟨BH3.out, Nat.le_succ _⟩ HB3.out (lessV_eq h x.f3.f1 x.f3.f2)).mono ?_
          rintro e w4 ⟨rfl, hI4, hB4, hK4⟩
          have HB4 := Aside0.mk hB4
          have BH4 : Aside0 (w4.heap[w.heap.size + 1]? = some (.cells (slC (lessV h x.f3.f1 x.f3.f2)) 25 (0, 0))) := ⟨hI4.1⟩
          have BS4 := Aside0.mk ((hK4.2 w.heap.size (blk_lt BS3.out) (Nat.ne_of_lt (Nat.lt_succ_self _)) (by simp)).trans BS3.out)
          clear hI4 hB4 hK4 HB3 BS3 BH3 BE3
          go_wp2
          go_roundw
          case rel => exact ⟨i + 1, lessV s x.f2.f1 x.f2.f2, lessV h x.f3.f1 x.f3.f2, by omega, by omega, by go_num, HB4, BS4, BH4, ⟨by rw [HN.out]; unfold takeV; rw [KS.out, KH.out]; rfl⟩⟩
          case measure => simp [intOf]; omega
        | false =>
          have KS := Aside0.mk hs
          have KH := Aside0.mk hh
          rw [hs] at d2
          rw [hh] at d5
          have BE2 : Aside0 ((wr.alloc (.cells #[.int .i64 x.f0, .int .i64 x.f1, .bool true, .int .i64 x.f2.f1, .int .i64 x.f2.f2, .bool false, .int .i64 x.f3.f1, .int .i64 x.f3.f2] 27)).heap[wr.heap.size]? = some (.cells #[.int .i64 x.f0, .int .i64 x.f1, .bool true, .int .i64 x.f2.f1, .int .i64 x.f2.f2, .bool false, .int .i64 x.f3.f1, .int .i64 x.f3.f2] 27 (0, 0))) := ⟨blk_new wr _⟩
          have HB2 := Aside0.mk (below_alloc HB1.out (.cells #[.int .i64 x.f0, .int .i64 x.f1, .bool true, .int .i64 x.f2.f1, .int .i64 x.f2.f2, .bool false, .int .i64 x.f3.f1, .int .i64 x.f3.f2] 27))
          have BS2 := Aside0.mk (blk_alloc BS1.out (.cells #[.int .i64 x.f0, .int .i64 x.f1, .bool true, .int .i64 x.f2.f1, .int .i64 x.f2.f2, .bool false, .int .i64 x.f3.f1, .int .i64 x.f3.f2] 27))
          have BH2 := Aside0.mk (blk_alloc BH1.out (.cells #[.int .i64 x.f0, .int .i64 x.f1, .bool true, .int .i64 x.f2.f1, .int .i64 x.f2.f2, .bool false, .int .i64 x.f3.f1, .int .i64 x.f3.f2] 27))
          clear HB1 BS1 BH1 hs hh
          go_wp2_with fail
          clear d0 d1 d2 d3 d4 d5 d6 d7
          refine (timing_Slack_less.calls w.heap.size s.f0 s.f1 s.f2 x.f2.f1 x.f2.f2 _ _ _ w _ ⟨BS2.out, Nat.le_refl _⟩ HB2.out (lessV_eq s x.f2.f1 x.f2.f2)).mono ?_
          rintro e w3 ⟨rfl, hI3, hB3, hK3⟩
          have HB3 := Aside0.mk hB3
          have BS3 : Aside0 (w3.heap[w.heap.size]? = some (.cells (slC (lessV s x.f2.f1 x.f2.f2)) 25 (0, 0))) := ⟨hI3.1⟩
          have BH3 := Aside0.mk ((hK3.2 (w.heap.size + 1) (blk_lt BH2.out) (Nat.succ_ne_self _) (by simp)).trans BH2.out)
          have BE3 := Aside0.mk ((hK3.2 wr.heap.size (blk_lt BE2.out) (Nat.ne_of_gt (Nat.lt_of_succ_lt LH.out)) (by simp)).trans BE2.out)
          clear hI3 hB3 hK3 HB2 BS2 BH2 BE2
          have c5 : w3.cell? ⟨wr.heap.size, 5, none⟩ = some (.bool false) := (blk_cell BE3.out 5).trans rfl
          have c6 : w3.cell? ⟨wr.heap.size, 6, none⟩ = some (.int .i64 x.f3.f1) := (blk_cell BE3.out 6).trans rfl
          have c7 : w3.cell? ⟨wr.heap.size, 7, none⟩ = some (.int .i64 x.f3.f2) := (blk_cell BE3.out 7).trans rfl
          go_wp2
          go_roundw
          case rel => exact ⟨i + 1, lessV s x.f2.f1 x.f2.f2, h, by omega, by omega, by go_num, HB3, BS3, BH3, ⟨by rw [HN.out]; unfold takeV; rw [KS.out, KH.out]; rfl⟩⟩
          case measure => simp [intOf]; omega
      | false =>
        cases hh : x.f3.f0 with
        | true =>
          have KS := Aside0.mk hs
          have KH := Aside0.mk hh
          rw [hs] at d2
          rw [hh] at d5
          have BE2 : Aside0 ((wr.alloc (.cells #[.int .i64 x.f0, .int .i64 x.f1, .bool false, .int .i64 x.f2.f1, .int .i64 x.f2.f2, .bool true, .int .i64 x.f3.f1, .int .i64 x.f3.f2] 27)).heap[wr.heap.size]? = some (.cells #[.int .i64 x.f0, .int .i64 x.f1, .bool false, .int .i64 x.f2.f1, .int .i64 x.f2.f2, .bool true, .int .i64 x.f3.f1, .int .i64 x.f3.f2] 27 (0, 0))) := ⟨blk_new wr _⟩
          have HB2 := Aside0.mk (below_alloc HB1.out (.cells #[.int .i64 x.f0, .int .i64 x.f1, .bool false, .int .i64 x.f2.f1, .int .i64 x.f2.f2, .bool true, .int .i64 x.f3.f1, .int .i64 x.f3.f2] 27))
          have BS2 := Aside0.mk (blk_alloc BS1.out (.cells #[.int .i64 x.f0, .int .i64 x.f1, .bool false, .int .i64 x.f2.f1, .int .i64 x.f2.f2, .bool true, .int .i64 x.f3.f1, .int .i64 x.f3.f2] 27))
          have BH2 := Aside0.mk (blk_alloc BH1.out (.cells #[.int .i64 x.f0, .int .i64 x.f1, .bool false, .int .i64 x.f2.f1, .int .i64 x.f2.f2, .bool true, .int .i64 x.f3.f1, .int .i64 x.f3.f2] 27))
          clear HB1 BS1 BH1 hs hh
          go_wp2_with fail
          clear d0 d1 d2 d3 d4 d5 d6 d7
          have HB3 := HB2
          have BS3 := BS2
          have BH3 := BH2
          have BE3 := BE2
          clear HB2 BS2 BH2 BE2
          refine (timing_Slack_less.calls (w.heap.size + 1) h.f0 h.f1 h.f2 x.f3.f1 x.f3.f2 _ _ _ w _ ⟨BH3.out, Nat.le_succ _⟩ HB3.out (lessV_eq h x.f3.f1 x.f3.f2)).mono ?_
          rintro e w4 ⟨rfl, hI4, hB4, hK4⟩
          have HB4 := Aside0.mk hB4
          have BH4 : Aside0 (w4.heap[w.heap.size + 1]? = some (.cells (slC (lessV h x.f3.f1 x.f3.f2)) 25 (0, 0))) := ⟨hI4.1⟩
          have BS4 := Aside0.mk ((hK4.2 w.heap.size (blk_lt BS3.out) (Nat.ne_of_lt (Nat.lt_succ_self _)) (by simp)).trans BS3.out)
          clear hI4 hB4 hK4 HB3 BS3 BH3 BE3
          go_wp2
          go_roundw
          case rel => exact ⟨i + 1, s, lessV h x.f3.f1 x.f3.f2, by omega, by omega, by go_num, HB4, BS4, BH4, ⟨by rw [HN.out]; unfold takeV; rw [KS.out, KH.out]; rfl⟩⟩
          case measure => simp [intOf]; omega
        | false =>
          have KS := Aside0.mk hs
          have KH := Aside0.mk hh
          rw [hs] at d2
          rw [hh] at d5
          have BE2 : Aside0 ((wr.alloc (.cells #[.int .i64 x.f0, .int .i64 x.f1, .bool false, .int .i64 x.f2.f1, .int .i64 x.f2.f2, .bool false, .int .i64 x.f3.f1, .int .i64 x.f3.f2] 27)).heap[wr.heap.size]? = some (.cells #[.int .i64 x.f0, .int .i64 x.f1, .bool false, .int .i64 x.f2.f1, .int .i64 x.f2.f2, .bool false, .int .i64 x.f3.f1, .int .i64 x.f3.f2] 27 (0, 0))) := ⟨blk_new wr _⟩
          have HB2 := Aside0.mk (below_alloc HB1.out (.cells #[.int .i64 x.f0, .int .i64 x.f1, .bool false, .int .i64 x.f2.f1, .int .i64 x.f2.f2, .bool false, .int .i64 x.f3.f1, .int .i64 x.f3.f2] 27))
          have BS2 := Aside0.mk (blk_alloc BS1.out (.cells #[.int .i64 x.f0, .int .i64 x.f1, .bool false, .int .i64 x.f2.f1, .int .i64 x.f2.f2, .bool false, .int .i64 x.f3.f1, .int .i64 x.f3.f2] 27))
          have BH2 := Aside0.mk (blk_alloc BH1.out (.cells #[.int .i64 x.f0, .int .i64 x.f1, .bool false, .int .i64 x.f2.f1, .int .i64 x.f2.f2, .bool false, .int .i64 x.f3.f1, .int .i64 x.f3.f2] 27))
          clear HB1 BS1 BH1 hs hh
          go_wp2_with fail
          clear d0 d1 d2 d3 d4 d5 d6 d7
          have HB3 := HB2
          have BS3 := BS2
          have BH3 := BH2
          have BE3 := BE2
          clear HB2 BS2 BH2 BE2
          go_wp2
          go_roundw
          case rel => exact ⟨i + 1, s, h, by omega, by omega, by go_num, HB3, BS3, BH3, ⟨by rw [HN.out]; unfold takeV; rw [KS.out, KH.out]; rfl⟩⟩
          case measure => simp [intOf]; omega
    · have e1 : decide (i < (l.length : Int)) = false := decide_eq_false hlt
      have hi : l.take i.toNat = l := List.take_of_length_le (by omega)
      rw [hi] at HV
      clear hi
      obtain ⟨s0, s1, s2⟩ := slCells BS1.out
      obtain ⟨t0, t1, t2⟩ := slCells BH1.out
      have f0 := blk_frozen BS1.out 0
      have f1 := blk_frozen BS1.out 1
      have f2 := blk_frozen BS1.out 2
      have g0 := blk_frozen BH1.out 0
      have g1 := blk_frozen BH1.out 1
      have g2 := blk_frozen BH1.out 2
      go_wp2
      refine bodyPost_ret (results_cc rfl _ _ w.heap.size (w.heap.size + 1) 25 25 (slC s) (slC h) (0, 0) (0, 0) _ _ rfl ?hs Tryd.underlying25 rfl (by kernel_rfl) rfl ?hh Tryd.underlying25 rfl (by kernel_rfl)) rfl ?_
      case hs => exact blk_far (blk_far (blk_far (blk_put (cs := slC s) (blk_put (cs := slC s) (blk_put (cs := slC s) BS1.out 0 _ rfl) 1 _ rfl) 2 _ rfl) (p := ⟨w.heap.size + 1, 0, none⟩) (Nat.ne_of_lt (Nat.lt_succ_self _)) _) (p := ⟨w.heap.size + 1, 1, none⟩) (Nat.ne_of_lt (Nat.lt_succ_self _)) _) (p := ⟨w.heap.size + 1, 2, none⟩) (Nat.ne_of_lt (Nat.lt_succ_self _)) _
      case hh => exact blk_put (cs := slC h) (blk_put (cs := slC h) (blk_put (cs := slC h) (blk_far (blk_far (blk_far BH1.out (p := ⟨w.heap.size, 0, none⟩) (Nat.succ_ne_self _) _) (p := ⟨w.heap.size, 1, none⟩) (Nat.succ_ne_self _) _) (p := ⟨w.heap.size, 2, none⟩) (Nat.succ_ne_self _) _) 0 _ rfl) 1 _ rfl) 2 _ rfl
      refine ⟨by rw [HV.out], ?_⟩
      exact below_set (below_set (below_set (below_set (below_set (below_set HB1.out (Nat.le_refl _)) (Nat.le_refl _)) (Nat.le_refl _)) (Nat.le_succ _)) (Nat.le_succ _)) (Nat.le_succ _)
end Go.Proofs.YthjdjjnpdeacgaaDoor.PT
