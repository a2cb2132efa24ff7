/- The law of the least slacks. -/
import Derived.Test.YthjdjjnpdeacgaaDoorPTx69
import Derived.Test.YthjdjjnpdeacgaaDoorPTx61
set_option linter.unusedSectionVars false
namespace Go.Proofs.YthjdjjnpdeacgaaDoor.PT
open Go.RowKit Go.Proofs.YthjdjjnpdeacgaaDoorW.PrintWords Go.Proofs.YthjdjjnpdeacgaaDoorW.PrintLast Go.Proofs.YthjdjjnpdeacgaaDoorW.PrintMore
set_option linter.unusedVariables false
set_option linter.unusedSimpArgs false

/-- The slack of the reference. -/
def pickV (s x : S25) : S25 := if x.f0 = true ∧ (s.f0 = false ∨ x.f1 ≤ s.f1) then x else s
def downV (l : List S27) : S25 × S25 := l.foldr (fun x p => (pickV p.1 x.f2, pickV p.2 x.f3)) (⟨false, 0, 0⟩, ⟨false, 0, 0⟩)
theorem takes (s x a : S25) : takeV (takeV s x) a = takeV s (pickV a x) := by
  obtain ⟨s0, s1, s2⟩ := s
  obtain ⟨x0, x1, x2⟩ := x
  obtain ⟨a0, a1, a2⟩ := a
  unfold takeV pickV lessV
  cases s0 <;> cases x0 <;> cases a0 <;> by_cases h : x1 ≤ a1 <;> by_cases k : x1 < s1 <;> by_cases m : a1 < s1 <;> simp [h, k, m] <;> omega
theorem folds (g : S27 → S25) : ∀ (l : List S27) (s : S25), l.foldl (fun p x => takeV p (g x)) s = takeV s (l.foldr (fun x p => pickV p (g x)) ⟨false, 0, 0⟩)
  | [], s => by simp [takeV]
  | x :: l, s => by
    rw [List.foldl_cons, folds g l, List.foldr_cons, takes]
theorem fold_known (g : S27 → S25) : ∀ (l : List S27), l.foldr (fun x p => pickV p (g x)) ⟨false, 0, 0⟩ = (⟨false, 0, 0⟩ : S25) ∨ (l.foldr (fun x p => pickV p (g x)) (⟨false, 0, 0⟩ : S25)).f0 = true
  | [] => .inl rfl
  | x :: l => by
    rw [List.foldr_cons]
    unfold pickV
    split
    · next h => exact .inr h.1
    · exact fold_known g l
theorem take_zero (a : S25) (h : a = (⟨false, 0, 0⟩ : S25) ∨ a.f0 = true) : takeV ⟨false, 0, 0⟩ a = a := by
  obtain ⟨a0, a1, a2⟩ := a
  rcases h with h | h
  · rw [h]
    rfl
  · unfold takeV lessV
    simp only at h
    simp [h]
theorem worst_pair : ∀ (l : List S27) (p : S25 × S25), l.foldl (fun p x => (takeV p.1 x.f2, takeV p.2 x.f3)) p = (l.foldl (fun p x => takeV p x.f2) p.1, l.foldl (fun p x => takeV p x.f3) p.2)
  | [], p => rfl
  | x :: l, p => by rw [List.foldl_cons, worst_pair l]; rfl
theorem down_pair : ∀ (l : List S27), downV l = (l.foldr (fun x p => pickV p x.f2) ⟨false, 0, 0⟩, l.foldr (fun x p => pickV p x.f3) ⟨false, 0, 0⟩)
  | [] => rfl
  | x :: l => by
    have h := down_pair l
    unfold downV at h ⊢
    rw [List.foldr_cons, h]
    rfl
theorem worst_down (l : List S27) : worstV l = downV l := by
  unfold worstV
  rw [worst_pair, down_pair, folds (fun x => x.f2), folds (fun x => x.f3), take_zero _ (fold_known (fun x => x.f2) l), take_zero _ (fold_known (fun x => x.f3) l)]
theorem down_next (l : List S27) (i : Int) (h0 : 0 ≤ i) (h1 : i < l.length) : downV (l.drop (i - 1 + 1).toNat) = (pickV (downV (l.drop (i + 1).toNat)).1 (rd_T27 l i).f2, pickV (downV (l.drop (i + 1).toNat)).2 (rd_T27 l i).f3) := by
  have hn : i.toNat < l.length := by omega
  have e : l.drop (i - 1 + 1).toNat = rd_T27 l i :: l.drop (i + 1).toNat := by
    rw [show (i - 1 + 1).toNat = i.toNat by omega, show (i + 1).toNat = i.toNat + 1 by omega]
    unfold rd_T27
    rw [List.getD_eq_getElem?_getD, List.getElem?_eq_getElem hn]
    exact List.drop_eq_getElem_cons hn
  rw [e]
  rfl
theorem eqA25 (d : Nat) (w : World) (x0 y0 : Bool) (x1 y1 x2 y2 : Int) :
    (Op.equalIn (d + 2) 25 (.agg #[.bool x0, .int .i64 x1, .int .i64 x2]) (.agg #[.bool y0, .int .i64 y1, .int .i64 y2])).run Tryd.prog w = .ok (x0 == y0 && (x1 == y1 && (x2 == y2))) w := by
  refine eqA_of Tryd.underlying25 (by kernel_rfl) ?_
  refine eqf_cons (by rfl) (by go_simp; rfl) (by go_simp; rfl) (by go_simp) ?_
  refine eqf_cons (by rfl) (by go_simp; rfl) (by go_simp; rfl) (by go_simp) ?_
  exact eqf_last (by rfl) (by go_simp; rfl) (by go_simp; rfl) (by go_simp)
attribute [local go_sem high] eqA25

/-! ### masklaw4_TimingWorsts: function 3 -/
def masklaw4_TimingWorsts.f (l0 : List (S27)) : Option (Bool) := some true
set_option maxHeartbeats 8000000 in
set_option maxRecDepth 100000 in
theorem masklaw4_TimingWorsts.calls (A0 : Option Addr) (c0 : Nat) (l0 : List (S27)) (r : Bool) (w : World) (hr0 : Kd.C k27 w A0 l0.length l0) (hc0 : l0.length ≤ c0) (h : masklaw4_TimingWorsts.f l0 = some r) :
    Calls Tryd.prog 3 #[.slice A0 l0.length c0] w fun e w' => e = .returned (.bool r) ∧ Below w.heap.size w w' := by
  obtain rfl := Option.some.inj h
  clear h
  have hu25 := Tryd.underlying25
  have hu27 := Tryd.underlying27
  have h63 : l0.length ≤ 9223372036854775807 := hr0.2.1
  have HR := Aside0.mk hr0
  have HC := Aside0.mk hc0
  clear hr0 hc0
  go_enter Tryd.func3, Tryd.ntmps3
  go_wp2_with fail
  refine (timed_c _).mono ?_
  rintro e w1 ⟨rfl, hw⟩
  have HB0 := Aside0.mk (below_alloc (below_alloc hw (.cells (slC ⟨false, 0, 0⟩) 25)) (.cells (slC ⟨false, 0, 0⟩) 25))
  have BS0 := Aside0.mk (blk_alloc (blk_new w1 (.cells (slC ⟨false, 0, 0⟩) 25)) (.cells (slC ⟨false, 0, 0⟩) 25))
  have BH0' := blk_new (w1.alloc (.cells (slC ⟨false, 0, 0⟩) 25)) (.cells (slC ⟨false, 0, 0⟩) 25)
  have hsz : (w1.alloc (.cells (slC ⟨false, 0, 0⟩) 25)).heap.size = w1.heap.size + 1 := by simp
  rw [hsz] at BH0'
  have BH0 := Aside0.mk BH0'
  have LG := Aside0.mk hw.size
  clear hsz BH0' hw
  go_wp2_with fail
  generalize w1.heap.size = gs at *
  go_loopw [5] (fun v wr => ∃ (i : Int) (s h : S25), -1 ≤ i ∧ i < l0.length ∧ v = .int .i64 i ∧ Aside0 (Below w.heap.size w wr) ∧ Aside0 (wr.heap[gs]? = some (.cells (slC s) 25 (0, 0))) ∧ Aside0 (wr.heap[gs + 1]? = some (.cells (slC h) 25 (0, 0))) ∧ Aside0 (downV (l0.drop (i + 1).toNat) = (s, h))) (fun v _ => (intOf v + 1).toNat)
  case atStart => exact ⟨(l0.length : Int) - 1, ⟨false, 0, 0⟩, ⟨false, 0, 0⟩, by omega, by omega, by go_num, HB0, BS0, BH0, ⟨by rw [show ((l0.length : Int) - 1 + 1).toNat = l0.length by omega, List.drop_length]; rfl⟩⟩
  case round =>
    clear HB0 BS0 BH0
    obtain ⟨i, s, h, h0, h1, rfl, HB1, BS1, BH1, HV⟩ := hrel
    by_cases hlt : 0 ≤ i
    · obtain ⟨ad, rfl, D0, D1, D2, D3, D4, D5, D6, D7⟩ := at_T27 HR.out i hlt h1
      have d2 := Aside0.mk D2
      have d3 := Aside0.mk D3
      have d4 := Aside0.mk D4
      have d5 := Aside0.mk D5
      have d6 := Aside0.mk D6
      have d7 := Aside0.mk D7
      clear D0 D1 D2 D3 D4 D5 D6 D7
      have e1 : decide (i ≥ 0) = true := decide_eq_true hlt
      have HN := Aside0.mk (down_next l0 i hlt h1)
      rw [HV.out] at HN
      generalize rd_T27 l0 i = x at *
      clear HV
      replace d2 := (HB1.out.cell (World.block_lt_of_cell? w _ d2.out)).trans d2.out
      replace d3 := (HB1.out.cell (World.block_lt_of_cell? w _ d3.out)).trans d3.out
      replace d4 := (HB1.out.cell (World.block_lt_of_cell? w _ d4.out)).trans d4.out
      obtain ⟨s0, s1, s2⟩ := slCells BS1.out
      have f0 := blk_frozen BS1.out 0
      have f1 := blk_frozen BS1.out 1
      have f2 := blk_frozen BS1.out 2
      have gl := blk_lt BS1.out
      cases hx : x.f2.f0 with
      | true =>
        rw [hx] at d2
        cases hs : s.f0 with
        | true =>
          rw [hs] at s0
          by_cases hle : x.f2.f1 ≤ s.f1
          · have e2 : decide (x.f2.f1 ≤ s.f1) = true := decide_eq_true hle
            go_upto_region 10 with (fail)
            have G : ∃ s' : S25, Aside0 (pickV s x.f2 = s') ∧ Aside0 (((((wr.setCell ⟨gs, 0, none⟩ (.bool true)).setCell ⟨gs, 1, none⟩ (.int .i64 x.f2.f1)).setCell ⟨gs, 2, none⟩ (.int .i64 x.f2.f2)).alloc (.cells #[.bool true, .int .i64 x.f2.f1, .int .i64 x.f2.f2] 25)).heap[gs]? = some (.cells (slC s') 25 (0, 0))) := ⟨⟨true, x.f2.f1, x.f2.f2⟩, ⟨by unfold pickV; rw [if_pos ⟨hx, .inr hle⟩]; rw [← hx]⟩, ⟨blk_alloc (blk_put (blk_put (blk_put BS1.out 0 (.bool true) rfl) 1 (.int .i64 x.f2.f1) rfl) 2 (.int .i64 x.f2.f2) rfl) (.cells #[.bool true, .int .i64 x.f2.f1, .int .i64 x.f2.f2] 25)⟩⟩
            have HB2 : Aside0 (Below w.heap.size w ((((wr.setCell ⟨gs, 0, none⟩ (.bool true)).setCell ⟨gs, 1, none⟩ (.int .i64 x.f2.f1)).setCell ⟨gs, 2, none⟩ (.int .i64 x.f2.f2)).alloc (.cells #[.bool true, .int .i64 x.f2.f1, .int .i64 x.f2.f2] 25))) := ⟨below_alloc (below_set (below_set (below_set HB1.out (g := gs) (j := 0) (v := .bool true) LG.out) (g := gs) (j := 1) (v := .int .i64 x.f2.f1) LG.out) (g := gs) (j := 2) (v := .int .i64 x.f2.f2) LG.out) (.cells #[.bool true, .int .i64 x.f2.f1, .int .i64 x.f2.f2] 25)⟩
            have BH2 : Aside0 (((((wr.setCell ⟨gs, 0, none⟩ (.bool true)).setCell ⟨gs, 1, none⟩ (.int .i64 x.f2.f1)).setCell ⟨gs, 2, none⟩ (.int .i64 x.f2.f2)).alloc (.cells #[.bool true, .int .i64 x.f2.f1, .int .i64 x.f2.f2] 25)).heap[gs + 1]? = some (.cells (slC h) 25 (0, 0))) := ⟨blk_alloc (blk_far (blk_far (blk_far BH1.out (p := ⟨gs, 0, none⟩) (Nat.succ_ne_self _) (.bool true)) (p := ⟨gs, 1, none⟩) (Nat.succ_ne_self _) (.int .i64 x.f2.f1)) (p := ⟨gs, 2, none⟩) (Nat.succ_ne_self _) (.int .i64 x.f2.f2)) (.cells #[.bool true, .int .i64 x.f2.f1, .int .i64 x.f2.f2] 25)⟩
            clear HB1 BS1 BH1 s0 s1 s2 f0 f1 f2 d2 d3 d4
            generalize (((wr.setCell ⟨gs, 0, none⟩ (.bool true)).setCell ⟨gs, 1, none⟩ (.int .i64 x.f2.f1)).setCell ⟨gs, 2, none⟩ (.int .i64 x.f2.f2)).alloc (.cells #[.bool true, .int .i64 x.f2.f1, .int .i64 x.f2.f2] 25) = W2 at *
            obtain ⟨s', HP, BS2⟩ := G
            clear e2 hle hx hs gl
            replace d5 := (HB2.out.cell (World.block_lt_of_cell? w _ d5.out)).trans d5.out
            replace d6 := (HB2.out.cell (World.block_lt_of_cell? w _ d6.out)).trans d6.out
            replace d7 := (HB2.out.cell (World.block_lt_of_cell? w _ d7.out)).trans d7.out
            obtain ⟨t0, t1, t2⟩ := slCells BH2.out
            have g0 := blk_frozen BH2.out 0
            have g1 := blk_frozen BH2.out 1
            have g2 := blk_frozen BH2.out 2
            have gl := blk_lt BH2.out
            cases hx : x.f3.f0 with
            | true =>
              rw [hx] at d5
              cases hs : h.f0 with
              | true =>
                rw [hs] at t0
                by_cases hle : x.f3.f1 ≤ h.f1
                · have e2 : decide (x.f3.f1 ≤ h.f1) = true := decide_eq_true hle
                  have HQ : Aside0 (pickV h x.f3 = ⟨true, x.f3.f1, x.f3.f2⟩) := ⟨by unfold pickV; rw [if_pos ⟨hx, .inr hle⟩]; rw [← hx]⟩
                  go_wp2
                  go_roundw
                  case rel => exact ⟨i - 1, s', ⟨true, x.f3.f1, x.f3.f2⟩, by omega, by omega, by go_num, ⟨below_alloc (below_set (below_set (below_set HB2.out (g := gs + 1) (j := 0) (v := .bool true) (Nat.le_succ_of_le LG.out)) (g := gs + 1) (j := 1) (v := .int .i64 x.f3.f1) (Nat.le_succ_of_le LG.out)) (g := gs + 1) (j := 2) (v := .int .i64 x.f3.f2) (Nat.le_succ_of_le LG.out)) (.cells #[.bool true, .int .i64 x.f3.f1, .int .i64 x.f3.f2] 25)⟩, ⟨blk_alloc (blk_far (blk_far (blk_far BS2.out (p := ⟨gs + 1, 0, none⟩) (Nat.ne_of_lt (Nat.lt_succ_self _)) (.bool true)) (p := ⟨gs + 1, 1, none⟩) (Nat.ne_of_lt (Nat.lt_succ_self _)) (.int .i64 x.f3.f1)) (p := ⟨gs + 1, 2, none⟩) (Nat.ne_of_lt (Nat.lt_succ_self _)) (.int .i64 x.f3.f2)) (.cells #[.bool true, .int .i64 x.f3.f1, .int .i64 x.f3.f2] 25)⟩, ⟨blk_alloc (blk_put (blk_put (blk_put BH2.out 0 (.bool true) rfl) 1 (.int .i64 x.f3.f1) rfl) 2 (.int .i64 x.f3.f2) rfl) (.cells #[.bool true, .int .i64 x.f3.f1, .int .i64 x.f3.f2] 25)⟩, ⟨by rw [HN.out, HP.out, HQ.out]⟩⟩
                  case measure => simp [intOf]; omega
                · have e2 : decide (x.f3.f1 ≤ h.f1) = false := decide_eq_false hle
                  have HQ : Aside0 (pickV h x.f3 = h) := ⟨by unfold pickV; rw [if_neg (by simp [hx, hs, hle])]⟩
                  go_wp2
                  go_roundw
                  case rel => exact ⟨i - 1, s', h, by omega, by omega, by go_num, ⟨below_alloc HB2.out (.cells #[.bool true, .int .i64 x.f3.f1, .int .i64 x.f3.f2] 25)⟩, ⟨blk_alloc BS2.out (.cells #[.bool true, .int .i64 x.f3.f1, .int .i64 x.f3.f2] 25)⟩, ⟨blk_alloc BH2.out (.cells #[.bool true, .int .i64 x.f3.f1, .int .i64 x.f3.f2] 25)⟩, ⟨by rw [HN.out, HP.out, HQ.out]⟩⟩
                  case measure => simp [intOf]; omega
              | false =>
                rw [hs] at t0
                have HQ : Aside0 (pickV h x.f3 = ⟨true, x.f3.f1, x.f3.f2⟩) := ⟨by unfold pickV; rw [if_pos ⟨hx, .inl hs⟩]; rw [← hx]⟩
                go_wp2
                go_roundw
                case rel => exact ⟨i - 1, s', ⟨true, x.f3.f1, x.f3.f2⟩, by omega, by omega, by go_num, ⟨below_alloc (below_set (below_set (below_set HB2.out (g := gs + 1) (j := 0) (v := .bool true) (Nat.le_succ_of_le LG.out)) (g := gs + 1) (j := 1) (v := .int .i64 x.f3.f1) (Nat.le_succ_of_le LG.out)) (g := gs + 1) (j := 2) (v := .int .i64 x.f3.f2) (Nat.le_succ_of_le LG.out)) (.cells #[.bool true, .int .i64 x.f3.f1, .int .i64 x.f3.f2] 25)⟩, ⟨blk_alloc (blk_far (blk_far (blk_far BS2.out (p := ⟨gs + 1, 0, none⟩) (Nat.ne_of_lt (Nat.lt_succ_self _)) (.bool true)) (p := ⟨gs + 1, 1, none⟩) (Nat.ne_of_lt (Nat.lt_succ_self _)) (.int .i64 x.f3.f1)) (p := ⟨gs + 1, 2, none⟩) (Nat.ne_of_lt (Nat.lt_succ_self _)) (.int .i64 x.f3.f2)) (.cells #[.bool true, .int .i64 x.f3.f1, .int .i64 x.f3.f2] 25)⟩, ⟨blk_alloc (blk_put (blk_put (blk_put BH2.out 0 (.bool true) rfl) 1 (.int .i64 x.f3.f1) rfl) 2 (.int .i64 x.f3.f2) rfl) (.cells #[.bool true, .int .i64 x.f3.f1, .int .i64 x.f3.f2] 25)⟩, ⟨by rw [HN.out, HP.out, HQ.out]⟩⟩
                case measure => simp [intOf]; omega
            | false =>
              rw [hx] at d5
              have HQ : Aside0 (pickV h x.f3 = h) := ⟨by unfold pickV; rw [if_neg (by simp [hx])]⟩
              go_wp2
              go_roundw
              case rel => exact ⟨i - 1, s', h, by omega, by omega, by go_num, ⟨below_alloc HB2.out (.cells #[.bool false, .int .i64 x.f3.f1, .int .i64 x.f3.f2] 25)⟩, ⟨blk_alloc BS2.out (.cells #[.bool false, .int .i64 x.f3.f1, .int .i64 x.f3.f2] 25)⟩, ⟨blk_alloc BH2.out (.cells #[.bool false, .int .i64 x.f3.f1, .int .i64 x.f3.f2] 25)⟩, ⟨by rw [HN.out, HP.out, HQ.out]⟩⟩
              case measure => simp [intOf]; omega
          · have e2 : decide (x.f2.f1 ≤ s.f1) = false := decide_eq_false hle
            go_upto_region 10 with (fail)
            have G : ∃ s' : S25, Aside0 (pickV s x.f2 = s') ∧ Aside0 ((wr.alloc (.cells #[.bool true, .int .i64 x.f2.f1, .int .i64 x.f2.f2] 25)).heap[gs]? = some (.cells (slC s') 25 (0, 0))) := ⟨s, ⟨by unfold pickV; rw [if_neg (by simp [hx, hs, hle])]⟩, ⟨blk_alloc BS1.out (.cells #[.bool true, .int .i64 x.f2.f1, .int .i64 x.f2.f2] 25)⟩⟩
            have HB2 : Aside0 (Below w.heap.size w (wr.alloc (.cells #[.bool true, .int .i64 x.f2.f1, .int .i64 x.f2.f2] 25))) := ⟨below_alloc HB1.out (.cells #[.bool true, .int .i64 x.f2.f1, .int .i64 x.f2.f2] 25)⟩
            have BH2 : Aside0 ((wr.alloc (.cells #[.bool true, .int .i64 x.f2.f1, .int .i64 x.f2.f2] 25)).heap[gs + 1]? = some (.cells (slC h) 25 (0, 0))) := ⟨blk_alloc BH1.out (.cells #[.bool true, .int .i64 x.f2.f1, .int .i64 x.f2.f2] 25)⟩
            clear HB1 BS1 BH1 s0 s1 s2 f0 f1 f2 d2 d3 d4
            generalize wr.alloc (.cells #[.bool true, .int .i64 x.f2.f1, .int .i64 x.f2.f2] 25) = W2 at *
            obtain ⟨s', HP, BS2⟩ := G
            clear e2 hle hx hs gl
            replace d5 := (HB2.out.cell (World.block_lt_of_cell? w _ d5.out)).trans d5.out
            replace d6 := (HB2.out.cell (World.block_lt_of_cell? w _ d6.out)).trans d6.out
            replace d7 := (HB2.out.cell (World.block_lt_of_cell? w _ d7.out)).trans d7.out
            obtain ⟨t0, t1, t2⟩ := slCells BH2.out
            have g0 := blk_frozen BH2.out 0
            have g1 := blk_frozen BH2.out 1
            have g2 := blk_frozen BH2.out 2
            have gl := blk_lt BH2.out
            cases hx : x.f3.f0 with
            | true =>
              rw [hx] at d5
              cases hs : h.f0 with
              | true =>
                rw [hs] at t0
                by_cases hle : x.f3.f1 ≤ h.f1
                · have e2 : decide (x.f3.f1 ≤ h.f1) = true := decide_eq_true hle
                  have HQ : Aside0 (pickV h x.f3 = ⟨true, x.f3.f1, x.f3.f2⟩) := ⟨by unfold pickV; rw [if_pos ⟨hx, .inr hle⟩]; rw [← hx]⟩
                  go_wp2
                  go_roundw
                  case rel => exact ⟨i - 1, s', ⟨true, x.f3.f1, x.f3.f2⟩, by omega, by omega, by go_num, ⟨below_alloc (below_set (below_set (below_set HB2.out (g := gs + 1) (j := 0) (v := .bool true) (Nat.le_succ_of_le LG.out)) (g := gs + 1) (j := 1) (v := .int .i64 x.f3.f1) (Nat.le_succ_of_le LG.out)) (g := gs + 1) (j := 2) (v := .int .i64 x.f3.f2) (Nat.le_succ_of_le LG.out)) (.cells #[.bool true, .int .i64 x.f3.f1, .int .i64 x.f3.f2] 25)⟩, ⟨blk_alloc (blk_far (blk_far (blk_far BS2.out (p := ⟨gs + 1, 0, none⟩) (Nat.ne_of_lt (Nat.lt_succ_self _)) (.bool true)) (p := ⟨gs + 1, 1, none⟩) (Nat.ne_of_lt (Nat.lt_succ_self _)) (.int .i64 x.f3.f1)) (p := ⟨gs + 1, 2, none⟩) (Nat.ne_of_lt (Nat.lt_succ_self _)) (.int .i64 x.f3.f2)) (.cells #[.bool true, .int .i64 x.f3.f1, .int .i64 x.f3.f2] 25)⟩, ⟨blk_alloc (blk_put (blk_put (blk_put BH2.out 0 (.bool true) rfl) 1 (.int .i64 x.f3.f1) rfl) 2 (.int .i64 x.f3.f2) rfl) (.cells #[.bool true, .int .i64 x.f3.f1, .int .i64 x.f3.f2] 25)⟩, ⟨by rw [HN.out, HP.out, HQ.out]⟩⟩
                  case measure => simp [intOf]; omega
                · have e2 : decide (x.f3.f1 ≤ h.f1) = false := decide_eq_false hle
                  have HQ : Aside0 (pickV h x.f3 = h) := ⟨by unfold pickV; rw [if_neg (by simp [hx, hs, hle])]⟩
                  go_wp2
                  go_roundw
                  case rel => exact ⟨i - 1, s', h, by omega, by omega, by go_num, ⟨below_alloc HB2.out (.cells #[.bool true, .int .i64 x.f3.f1, .int .i64 x.f3.f2] 25)⟩, ⟨blk_alloc BS2.out (.cells #[.bool true, .int .i64 x.f3.f1, .int .i64 x.f3.f2] 25)⟩, ⟨blk_alloc BH2.out (.cells #[.bool true, .int .i64 x.f3.f1, .int .i64 x.f3.f2] 25)⟩, ⟨by rw [HN.out, HP.out, HQ.out]⟩⟩
                  case measure => simp [intOf]; omega
              | false =>
                rw [hs] at t0
                have HQ : Aside0 (pickV h x.f3 = ⟨true, x.f3.f1, x.f3.f2⟩) := ⟨by unfold pickV; rw [if_pos ⟨hx, .inl hs⟩]; rw [← hx]⟩
                go_wp2
                go_roundw
                case rel => exact ⟨i - 1, s', ⟨true, x.f3.f1, x.f3.f2⟩, by omega, by omega, by go_num, ⟨below_alloc (below_set (below_set (below_set HB2.out (g := gs + 1) (j := 0) (v := .bool true) (Nat.le_succ_of_le LG.out)) (g := gs + 1) (j := 1) (v := .int .i64 x.f3.f1) (Nat.le_succ_of_le LG.out)) (g := gs + 1) (j := 2) (v := .int .i64 x.f3.f2) (Nat.le_succ_of_le LG.out)) (.cells #[.bool true, .int .i64 x.f3.f1, .int .i64 x.f3.f2] 25)⟩, ⟨blk_alloc (blk_far (blk_far (blk_far BS2.out (p := ⟨gs + 1, 0, none⟩) (Nat.ne_of_lt (Nat.lt_succ_self _)) (.bool true)) (p := ⟨gs + 1, 1, none⟩) (Nat.ne_of_lt (Nat.lt_succ_self _)) (.int .i64 x.f3.f1)) (p := ⟨gs + 1, 2, none⟩) (Nat.ne_of_lt (Nat.lt_succ_self _)) (.int .i64 x.f3.f2)) (.cells #[.bool true, .int .i64 x.f3.f1, .int .i64 x.f3.f2] 25)⟩, ⟨blk_alloc (blk_put (blk_put (blk_put BH2.out 0 (.bool true) rfl) 1 (.int .i64 x.f3.f1) rfl) 2 (.int .i64 x.f3.f2) rfl) (.cells #[.bool true, .int .i64 x.f3.f1, .int .i64 x.f3.f2] 25)⟩, ⟨by rw [HN.out, HP.out, HQ.out]⟩⟩
                case measure => simp [intOf]; omega
            | false =>
              rw [hx] at d5
              have HQ : Aside0 (pickV h x.f3 = h) := ⟨by unfold pickV; rw [if_neg (by simp [hx])]⟩
              go_wp2
              go_roundw
              case rel => exact ⟨i - 1, s', h, by omega, by omega, by go_num, ⟨below_alloc HB2.out (.cells #[.bool false, .int .i64 x.f3.f1, .int .i64 x.f3.f2] 25)⟩, ⟨blk_alloc BS2.out (.cells #[.bool false, .int .i64 x.f3.f1, .int .i64 x.f3.f2] 25)⟩, ⟨blk_alloc BH2.out (.cells #[.bool false, .int .i64 x.f3.f1, .int .i64 x.f3.f2] 25)⟩, ⟨by rw [HN.out, HP.out, HQ.out]⟩⟩
              case measure => simp [intOf]; omega
        | false =>
          rw [hs] at s0
          go_upto_region 10 with (fail)
          have G : ∃ s' : S25, Aside0 (pickV s x.f2 = s') ∧ Aside0 (((((wr.setCell ⟨gs, 0, none⟩ (.bool true)).setCell ⟨gs, 1, none⟩ (.int .i64 x.f2.f1)).setCell ⟨gs, 2, none⟩ (.int .i64 x.f2.f2)).alloc (.cells #[.bool true, .int .i64 x.f2.f1, .int .i64 x.f2.f2] 25)).heap[gs]? = some (.cells (slC s') 25 (0, 0))) := ⟨⟨true, x.f2.f1, x.f2.f2⟩, ⟨by unfold pickV; rw [if_pos ⟨hx, .inl hs⟩]; rw [← hx]⟩, ⟨blk_alloc (blk_put (blk_put (blk_put BS1.out 0 (.bool true) rfl) 1 (.int .i64 x.f2.f1) rfl) 2 (.int .i64 x.f2.f2) rfl) (.cells #[.bool true, .int .i64 x.f2.f1, .int .i64 x.f2.f2] 25)⟩⟩
          have HB2 : Aside0 (Below w.heap.size w ((((wr.setCell ⟨gs, 0, none⟩ (.bool true)).setCell ⟨gs, 1, none⟩ (.int .i64 x.f2.f1)).setCell ⟨gs, 2, none⟩ (.int .i64 x.f2.f2)).alloc (.cells #[.bool true, .int .i64 x.f2.f1, .int .i64 x.f2.f2] 25))) := ⟨below_alloc (below_set (below_set (below_set HB1.out (g := gs) (j := 0) (v := .bool true) LG.out) (g := gs) (j := 1) (v := .int .i64 x.f2.f1) LG.out) (g := gs) (j := 2) (v := .int .i64 x.f2.f2) LG.out) (.cells #[.bool true, .int .i64 x.f2.f1, .int .i64 x.f2.f2] 25)⟩
          have BH2 : Aside0 (((((wr.setCell ⟨gs, 0, none⟩ (.bool true)).setCell ⟨gs, 1, none⟩ (.int .i64 x.f2.f1)).setCell ⟨gs, 2, none⟩ (.int .i64 x.f2.f2)).alloc (.cells #[.bool true, .int .i64 x.f2.f1, .int .i64 x.f2.f2] 25)).heap[gs + 1]? = some (.cells (slC h) 25 (0, 0))) := ⟨blk_alloc (blk_far (blk_far (blk_far BH1.out (p := ⟨gs, 0, none⟩) (Nat.succ_ne_self _) (.bool true)) (p := ⟨gs, 1, none⟩) (Nat.succ_ne_self _) (.int .i64 x.f2.f1)) (p := ⟨gs, 2, none⟩) (Nat.succ_ne_self _) (.int .i64 x.f2.f2)) (.cells #[.bool true, .int .i64 x.f2.f1, .int .i64 x.f2.f2] 25)⟩
          clear HB1 BS1 BH1 s0 s1 s2 f0 f1 f2 d2 d3 d4
          generalize (((wr.setCell ⟨gs, 0, none⟩ (.bool true)).setCell ⟨gs, 1, none⟩ (.int .i64 x.f2.f1)).setCell ⟨gs, 2, none⟩ (.int .i64 x.f2.f2)).alloc (.cells #[.bool true, .int .i64 x.f2.f1, .int .i64 x.f2.f2] 25) = W2 at *
          obtain ⟨s', HP, BS2⟩ := G
          clear hx hs gl
          replace d5 := (HB2.out.cell (World.block_lt_of_cell? w _ d5.out)).trans d5.out
          replace d6 := (HB2.out.cell (World.block_lt_of_cell? w _ d6.out)).trans d6.out
          replace d7 := (HB2.out.cell (World.block_lt_of_cell? w _ d7.out)).trans d7.out
          obtain ⟨t0, t1, t2⟩ := slCells BH2.out
          have g0 := blk_frozen BH2.out 0
          have g1 := blk_frozen BH2.out 1
          have g2 := blk_frozen BH2.out 2
          have gl := blk_lt BH2.out
          cases hx : x.f3.f0 with
          | true =>
            rw [hx] at d5
            cases hs : h.f0 with
            | true =>
              rw [hs] at t0
              by_cases hle : x.f3.f1 ≤ h.f1
              · have e2 : decide (x.f3.f1 ≤ h.f1) = true := decide_eq_true hle
                have HQ : Aside0 (pickV h x.f3 = ⟨true, x.f3.f1, x.f3.f2⟩) := ⟨by unfold pickV; rw [if_pos ⟨hx, .inr hle⟩]; rw [← hx]⟩
                go_wp2
                go_roundw
                case rel => exact ⟨i - 1, s', ⟨true, x.f3.f1, x.f3.f2⟩, by omega, by omega, by go_num, ⟨below_alloc (below_set (below_set (below_set HB2.out (g := gs + 1) (j := 0) (v := .bool true) (Nat.le_succ_of_le LG.out)) (g := gs + 1) (j := 1) (v := .int .i64 x.f3.f1) (Nat.le_succ_of_le LG.out)) (g := gs + 1) (j := 2) (v := .int .i64 x.f3.f2) (Nat.le_succ_of_le LG.out)) (.cells #[.bool true, .int .i64 x.f3.f1, .int .i64 x.f3.f2] 25)⟩, ⟨blk_alloc (blk_far (blk_far (blk_far BS2.out (p := ⟨gs + 1, 0, none⟩) (Nat.ne_of_lt (Nat.lt_succ_self _)) (.bool true)) (p := ⟨gs + 1, 1, none⟩) (Nat.ne_of_lt (Nat.lt_succ_self _)) (.int .i64 x.f3.f1)) (p := ⟨gs + 1, 2, none⟩) (Nat.ne_of_lt (Nat.lt_succ_self _)) (.int .i64 x.f3.f2)) (.cells #[.bool true, .int .i64 x.f3.f1, .int .i64 x.f3.f2] 25)⟩, ⟨blk_alloc (blk_put (blk_put (blk_put BH2.out 0 (.bool true) rfl) 1 (.int .i64 x.f3.f1) rfl) 2 (.int .i64 x.f3.f2) rfl) (.cells #[.bool true, .int .i64 x.f3.f1, .int .i64 x.f3.f2] 25)⟩, ⟨by rw [HN.out, HP.out, HQ.out]⟩⟩
                case measure => simp [intOf]; omega
              · have e2 : decide (x.f3.f1 ≤ h.f1) = false := decide_eq_false hle
                have HQ : Aside0 (pickV h x.f3 = h) := ⟨by unfold pickV; rw [if_neg (by simp [hx, hs, hle])]⟩
                go_wp2
                go_roundw
                case rel => exact ⟨i - 1, s', h, by omega, by omega, by go_num, ⟨below_alloc HB2.out (.cells #[.bool true, .int .i64 x.f3.f1, .int .i64 x.f3.f2] 25)⟩, ⟨blk_alloc BS2.out (.cells #[.bool true, .int .i64 x.f3.f1, .int .i64 x.f3.f2] 25)⟩, ⟨blk_alloc BH2.out (.cells #[.bool true, .int .i64 x.f3.f1, .int .i64 x.f3.f2] 25)⟩, ⟨by rw [HN.out, HP.out, HQ.out]⟩⟩
                case measure => simp [intOf]; omega
            | false =>
              rw [hs] at t0
              have HQ : Aside0 (pickV h x.f3 = ⟨true, x.f3.f1, x.f3.f2⟩) := ⟨by unfold pickV; rw [if_pos ⟨hx, .inl hs⟩]; rw [← hx]⟩
              go_wp2
              go_roundw
              case rel => exact ⟨i - 1, s', ⟨true, x.f3.f1, x.f3.f2⟩, by omega, by omega, by go_num, ⟨below_alloc (below_set (below_set (below_set HB2.out (g := gs + 1) (j := 0) (v := .bool true) (Nat.le_succ_of_le LG.out)) (g := gs + 1) (j := 1) (v := .int .i64 x.f3.f1) (Nat.le_succ_of_le LG.out)) (g := gs + 1) (j := 2) (v := .int .i64 x.f3.f2) (Nat.le_succ_of_le LG.out)) (.cells #[.bool true, .int .i64 x.f3.f1, .int .i64 x.f3.f2] 25)⟩, ⟨blk_alloc (blk_far (blk_far (blk_far BS2.out (p := ⟨gs + 1, 0, none⟩) (Nat.ne_of_lt (Nat.lt_succ_self _)) (.bool true)) (p := ⟨gs + 1, 1, none⟩) (Nat.ne_of_lt (Nat.lt_succ_self _)) (.int .i64 x.f3.f1)) (p := ⟨gs + 1, 2, none⟩) (Nat.ne_of_lt (Nat.lt_succ_self _)) (.int .i64 x.f3.f2)) (.cells #[.bool true, .int .i64 x.f3.f1, .int .i64 x.f3.f2] 25)⟩, ⟨blk_alloc (blk_put (blk_put (blk_put BH2.out 0 (.bool true) rfl) 1 (.int .i64 x.f3.f1) rfl) 2 (.int .i64 x.f3.f2) rfl) (.cells #[.bool true, .int .i64 x.f3.f1, .int .i64 x.f3.f2] 25)⟩, ⟨by rw [HN.out, HP.out, HQ.out]⟩⟩
              case measure => simp [intOf]; omega
          | false =>
            rw [hx] at d5
            have HQ : Aside0 (pickV h x.f3 = h) := ⟨by unfold pickV; rw [if_neg (by simp [hx])]⟩
            go_wp2
            go_roundw
            case rel => exact ⟨i - 1, s', h, by omega, by omega, by go_num, ⟨below_alloc HB2.out (.cells #[.bool false, .int .i64 x.f3.f1, .int .i64 x.f3.f2] 25)⟩, ⟨blk_alloc BS2.out (.cells #[.bool false, .int .i64 x.f3.f1, .int .i64 x.f3.f2] 25)⟩, ⟨blk_alloc BH2.out (.cells #[.bool false, .int .i64 x.f3.f1, .int .i64 x.f3.f2] 25)⟩, ⟨by rw [HN.out, HP.out, HQ.out]⟩⟩
            case measure => simp [intOf]; omega
      | false =>
        rw [hx] at d2
        go_upto_region 10 with (fail)
        have G : ∃ s' : S25, Aside0 (pickV s x.f2 = s') ∧ Aside0 ((wr.alloc (.cells #[.bool false, .int .i64 x.f2.f1, .int .i64 x.f2.f2] 25)).heap[gs]? = some (.cells (slC s') 25 (0, 0))) := ⟨s, ⟨by unfold pickV; rw [if_neg (by simp [hx])]⟩, ⟨blk_alloc BS1.out (.cells #[.bool false, .int .i64 x.f2.f1, .int .i64 x.f2.f2] 25)⟩⟩
        have HB2 : Aside0 (Below w.heap.size w (wr.alloc (.cells #[.bool false, .int .i64 x.f2.f1, .int .i64 x.f2.f2] 25))) := ⟨below_alloc HB1.out (.cells #[.bool false, .int .i64 x.f2.f1, .int .i64 x.f2.f2] 25)⟩
        have BH2 : Aside0 ((wr.alloc (.cells #[.bool false, .int .i64 x.f2.f1, .int .i64 x.f2.f2] 25)).heap[gs + 1]? = some (.cells (slC h) 25 (0, 0))) := ⟨blk_alloc BH1.out (.cells #[.bool false, .int .i64 x.f2.f1, .int .i64 x.f2.f2] 25)⟩
        clear HB1 BS1 BH1 s0 s1 s2 f0 f1 f2 d2 d3 d4
        generalize wr.alloc (.cells #[.bool false, .int .i64 x.f2.f1, .int .i64 x.f2.f2] 25) = W2 at *
        obtain ⟨s', HP, BS2⟩ := G
        clear hx gl
        replace d5 := (HB2.out.cell (World.block_lt_of_cell? w _ d5.out)).trans d5.out
        replace d6 := (HB2.out.cell (World.block_lt_of_cell? w _ d6.out)).trans d6.out
        replace d7 := (HB2.out.cell (World.block_lt_of_cell? w _ d7.out)).trans d7.out
        obtain ⟨t0, t1, t2⟩ := slCells BH2.out
        have g0 := blk_frozen BH2.out 0
        have g1 := blk_frozen BH2.out 1
        have g2 := blk_frozen BH2.out 2
        have gl := blk_lt BH2.out
        cases hx : x.f3.f0 with
        | true =>
          rw [hx] at d5
          cases hs : h.f0 with
          | true =>
            rw [hs] at t0
            by_cases hle : x.f3.f1 ≤ h.f1
            · have e2 : decide (x.f3.f1 ≤ h.f1) = true := decide_eq_true hle
              have HQ : Aside0 (pickV h x.f3 = ⟨true, x.f3.f1, x.f3.f2⟩) := ⟨by unfold pickV; rw [if_pos ⟨hx, .inr hle⟩]; rw [← hx]⟩
              go_wp2
              go_roundw
              case rel => exact ⟨i - 1, s', ⟨true, x.f3.f1, x.f3.f2⟩, by omega, by omega, by go_num, ⟨below_alloc (below_set (below_set (below_set HB2.out (g := gs + 1) (j := 0) (v := .bool true) (Nat.le_succ_of_le LG.out)) (g := gs + 1) (j := 1) (v := .int .i64 x.f3.f1) (Nat.le_succ_of_le LG.out)) (g := gs + 1) (j := 2) (v := .int .i64 x.f3.f2) (Nat.le_succ_of_le LG.out)) (.cells #[.bool true, .int .i64 x.f3.f1, .int .i64 x.f3.f2] 25)⟩, ⟨blk_alloc (blk_far (blk_far (blk_far BS2.out (p := ⟨gs + 1, 0, none⟩) (Nat.ne_of_lt (Nat.lt_succ_self _)) (.bool true)) (p := ⟨gs + 1, 1, none⟩) (Nat.ne_of_lt (Nat.lt_succ_self _)) (.int .i64 x.f3.f1)) (p := ⟨gs + 1, 2, none⟩) (Nat.ne_of_lt (Nat.lt_succ_self _)) (.int .i64 x.f3.f2)) (.cells #[.bool true, .int .i64 x.f3.f1, .int .i64 x.f3.f2] 25)⟩, ⟨blk_alloc (blk_put (blk_put (blk_put BH2.out 0 (.bool true) rfl) 1 (.int .i64 x.f3.f1) rfl) 2 (.int .i64 x.f3.f2) rfl) (.cells #[.bool true, .int .i64 x.f3.f1, .int .i64 x.f3.f2] 25)⟩, ⟨by rw [HN.out, HP.out, HQ.out]⟩⟩
              case measure => simp [intOf]; omega
            · have e2 : decide (x.f3.f1 ≤ h.f1) = false := decide_eq_false hle
              have HQ : Aside0 (pickV h x.f3 = h) := ⟨by unfold pickV; rw [if_neg (by simp [hx, hs, hle])]⟩
              go_wp2
              go_roundw
              case rel => exact ⟨i - 1, s', h, by omega, by omega, by go_num, ⟨below_alloc HB2.out (.cells #[.bool true, .int .i64 x.f3.f1, .int .i64 x.f3.f2] 25)⟩, ⟨blk_alloc BS2.out (.cells #[.bool true, .int .i64 x.f3.f1, .int .i64 x.f3.f2] 25)⟩, ⟨blk_alloc BH2.out (.cells #[.bool true, .int .i64 x.f3.f1, .int .i64 x.f3.f2] 25)⟩, ⟨by rw [HN.out, HP.out, HQ.out]⟩⟩
              case measure => simp [intOf]; omega
          | false =>
            rw [hs] at t0
            have HQ : Aside0 (pickV h x.f3 = ⟨true, x.f3.f1, x.f3.f2⟩) := ⟨by unfold pickV; rw [if_pos ⟨hx, .inl hs⟩]; rw [← hx]⟩
            go_wp2
            go_roundw
            case rel => exact ⟨i - 1, s', ⟨true, x.f3.f1, x.f3.f2⟩, by omega, by omega, by go_num, ⟨below_alloc (below_set (below_set (below_set HB2.out (g := gs + 1) (j := 0) (v := .bool true) (Nat.le_succ_of_le LG.out)) (g := gs + 1) (j := 1) (v := .int .i64 x.f3.f1) (Nat.le_succ_of_le LG.out)) (g := gs + 1) (j := 2) (v := .int .i64 x.f3.f2) (Nat.le_succ_of_le LG.out)) (.cells #[.bool true, .int .i64 x.f3.f1, .int .i64 x.f3.f2] 25)⟩, ⟨blk_alloc (blk_far (blk_far (blk_far BS2.out (p := ⟨gs + 1, 0, none⟩) (Nat.ne_of_lt (Nat.lt_succ_self _)) (.bool true)) (p := ⟨gs + 1, 1, none⟩) (Nat.ne_of_lt (Nat.lt_succ_self _)) (.int .i64 x.f3.f1)) (p := ⟨gs + 1, 2, none⟩) (Nat.ne_of_lt (Nat.lt_succ_self _)) (.int .i64 x.f3.f2)) (.cells #[.bool true, .int .i64 x.f3.f1, .int .i64 x.f3.f2] 25)⟩, ⟨blk_alloc (blk_put (blk_put (blk_put BH2.out 0 (.bool true) rfl) 1 (.int .i64 x.f3.f1) rfl) 2 (.int .i64 x.f3.f2) rfl) (.cells #[.bool true, .int .i64 x.f3.f1, .int .i64 x.f3.f2] 25)⟩, ⟨by rw [HN.out, HP.out, HQ.out]⟩⟩
            case measure => simp [intOf]; omega
        | false =>
          rw [hx] at d5
          have HQ : Aside0 (pickV h x.f3 = h) := ⟨by unfold pickV; rw [if_neg (by simp [hx])]⟩
          go_wp2
          go_roundw
          case rel => exact ⟨i - 1, s', h, by omega, by omega, by go_num, ⟨below_alloc HB2.out (.cells #[.bool false, .int .i64 x.f3.f1, .int .i64 x.f3.f2] 25)⟩, ⟨blk_alloc BS2.out (.cells #[.bool false, .int .i64 x.f3.f1, .int .i64 x.f3.f2] 25)⟩, ⟨blk_alloc BH2.out (.cells #[.bool false, .int .i64 x.f3.f1, .int .i64 x.f3.f2] 25)⟩, ⟨by rw [HN.out, HP.out, HQ.out]⟩⟩
          case measure => simp [intOf]; omega
    · have e1 : decide (i ≥ 0) = false := decide_eq_false hlt
      obtain rfl : i = -1 := by omega
      have HD := Aside0.mk (HV.out : downV l0 = (s, h))
      have HW := Aside0.mk ((worst_down l0).trans HD.out)
      go_wp2_with fail
      refine (worst_c A0 c0 l0 _ (Kd.C_below HR.out HB1.out) HC.out).mono ?_
      rw [HW.out]
      rintro e w2 ⟨rfl, hw2⟩
      have HB2 := Aside0.mk (below_step HB1.out hw2)
      obtain ⟨s0, s1, s2⟩ := slCells (blk_below BS1.out hw2)
      obtain ⟨t0, t1, t2⟩ := slCells (blk_below BH1.out hw2)
      have gl := blk_lt (blk_below BS1.out hw2)
      have gl1 := blk_lt (blk_below BH1.out hw2)
      clear hw2
      have q0 : (s.f0 == s.f0) = true := beq_self_eq_true _
      have q1 : (s.f1 == s.f1) = true := beq_self_eq_true _
      have q2 : (s.f2 == s.f2) = true := beq_self_eq_true _
      have p0 : (h.f0 == h.f0) = true := beq_self_eq_true _
      have p1 : (h.f1 == h.f1) = true := beq_self_eq_true _
      have p2 : (h.f2 == h.f2) = true := beq_self_eq_true _
      go_wp2
      go_ret
      exact ⟨rfl, by repeat (first | exact HB2.out | apply below_alloc | apply pw_below_drewN | apply below_drew1)⟩
end Go.Proofs.YthjdjjnpdeacgaaDoor.PT
