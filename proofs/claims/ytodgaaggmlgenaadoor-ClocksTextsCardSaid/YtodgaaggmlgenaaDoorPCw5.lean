/- What clocks.Check answers. -/
import Derived.Test.YtodgaaggmlgenaaDoorPCw4
set_option linter.unusedSectionVars false
namespace Go.Proofs.YtodgaaggmlgenaaDoor.PC
open Go.Sort Go.RowKit Go.Proofs.YtodgaaggmlgenaaDoorW.PrintWords Go.Proofs.YtodgaaggmlgenaaDoorW.PrintLast Go.Proofs.YtodgaaggmlgenaaDoorW.PrintMore
set_option linter.unusedVariables false
set_option linter.unusedSimpArgs false

section
variable {p : Int} {l1 : List S51} {l2 : List S53} {l3 : List S49}
theorem cv1 (hp : ¬ (p < 1 ∨ 67108864 < p)) (hl : ¬ (128 < l1.length ∨ 128 < l2.length ∨ 64 < l3.length)) {i : Int} (h0 : 0 ≤ i) (h1 : i < l1.length) (hz : ∀ j : Nat, (j : Int) < i → errI l1 j = 0) (ne : errI l1 i.toNat ≠ 0) : CheckV p l1 l2 l3 = errI l1 i.toNat := by
  have e : firstErr (errI l1) l1.length 0 = errI l1 i.toNat := firstErr_at _ 0 i.toNat (by omega) (by omega) (fun j _ hj => hz j (by omega)) ne
  unfold CheckV
  rw [if_neg hp, if_neg hl, e, if_neg ne]
theorem cv2 (hp : ¬ (p < 1 ∨ 67108864 < p)) (hl : ¬ (128 < l1.length ∨ 128 < l2.length ∨ 64 < l3.length)) (z1 : ∀ j : Nat, j < l1.length → errI l1 j = 0) {i : Int} (h0 : 0 ≤ i) (h1 : i < l2.length) (hz : ∀ j : Nat, (j : Int) < i → errO l2 j = 0) (ne : errO l2 i.toNat ≠ 0) : CheckV p l1 l2 l3 = errO l2 i.toNat := by
  have e : firstErr (errO l2) l2.length 0 = errO l2 i.toNat := firstErr_at _ 0 i.toNat (by omega) (by omega) (fun j _ hj => hz j (by omega)) ne
  have e1 : firstErr (errI l1) l1.length 0 = 0 := firstErr_zero _ 0 (fun j _ hj => z1 j (by omega))
  unfold CheckV
  rw [if_neg hp, if_neg hl, if_pos e1, e, if_neg ne]
theorem cv3 (hp : ¬ (p < 1 ∨ 67108864 < p)) (hl : ¬ (128 < l1.length ∨ 128 < l2.length ∨ 64 < l3.length)) (z1 : ∀ j : Nat, j < l1.length → errI l1 j = 0) (z2 : ∀ j : Nat, j < l2.length → errO l2 j = 0) {i : Int} (h0 : 0 ≤ i) (h1 : i < l3.length) (hz : ∀ j : Nat, (j : Int) < i → errP l3 j = 0) (ne : errP l3 i.toNat ≠ 0) : CheckV p l1 l2 l3 = errP l3 i.toNat := by
  have e : firstErr (errP l3) l3.length 0 = errP l3 i.toNat := firstErr_at _ 0 i.toNat (by omega) (by omega) (fun j _ hj => hz j (by omega)) ne
  have e1 : firstErr (errI l1) l1.length 0 = 0 := firstErr_zero _ 0 (fun j _ hj => z1 j (by omega))
  have e2 : firstErr (errO l2) l2.length 0 = 0 := firstErr_zero _ 0 (fun j _ hj => z2 j (by omega))
  unfold CheckV
  rw [if_neg hp, if_neg hl, if_pos e1, if_pos e2, e]
theorem cv4 (hp : ¬ (p < 1 ∨ 67108864 < p)) (hl : ¬ (128 < l1.length ∨ 128 < l2.length ∨ 64 < l3.length)) (z1 : ∀ j : Nat, j < l1.length → errI l1 j = 0) (z2 : ∀ j : Nat, j < l2.length → errO l2 j = 0) (z3 : ∀ j : Nat, j < l3.length → errP l3 j = 0) : CheckV p l1 l2 l3 = 0 := by
  have e : firstErr (errP l3) l3.length 0 = 0 := firstErr_zero _ 0 (fun j _ hj => z3 j (by omega))
  have e1 : firstErr (errI l1) l1.length 0 = 0 := firstErr_zero _ 0 (fun j _ hj => z1 j (by omega))
  have e2 : firstErr (errO l2) l2.length 0 = 0 := firstErr_zero _ 0 (fun j _ hj => z2 j (by omega))
  unfold CheckV
  rw [if_neg hp, if_neg hl, if_pos e1, if_pos e2, e]
end
theorem next0 {f : Nat → Int} {i : Int} (h0 : 0 ≤ i) (hz : ∀ j : Nat, (j : Int) < i → f j = 0) (h : f i.toNat = 0) : ∀ j : Nat, (j : Int) < i + 1 → f j = 0 := by
  intro j hj
  by_cases e : (j : Int) < i
  · exact hz j e
  · have : j = i.toNat := by omega
    rw [this]; exact h
theorem all0 {f : Nat → Int} {i : Int} {n : Nat} (h1 : i ≤ n) (hge : ¬ i < n) (hz : ∀ j : Nat, (j : Int) < i → f j = 0) : ∀ j : Nat, j < n → f j = 0 := fun j hj => hz j (by omega)

theorem okL_step {w w' : World} {lim : Int} (h : okL w.heap.size w lim) (hb : Below w.heap.size w w') : okL w'.heap.size w' lim := by
  rcases h with h | ⟨h, ht⟩
  · exact .inl h
  · exact .inr ⟨h, fun w2 h2 => ht w2 (hb.trans (h2.mono hb.size))⟩

set_option maxHeartbeats 4000000 in
set_option maxRecDepth 100000 in
theorem check_calls (p : Int) (A1 : Option Addr) (c1 : Nat) (l1 : List S51) (A2 : Option Addr) (c2 : Nat) (l2 : List S53) (A3 : Option Addr) (c3 : Nat) (l3 : List S49) (w : World)
    (hr1 : Kd.C k51 w A1 l1.length l1) (hc1 : l1.length ≤ c1) (hr2 : Kd.C k53 w A2 l2.length l2) (hc2 : l2.length ≤ c2) (hr3 : Kd.C k49 w A3 l3.length l3) (hc3 : l3.length ≤ c3)
    (hS : StrOk l1 l2 l3) (hT : TabS w p l1 l2 l3) :
    Calls Tryd.prog 16 #[.agg #[.int .i64 p, .slice A1 l1.length c1, .slice A2 l2.length c2, .slice A3 l3.length c3]] w fun e w' => e = .returned (.int .i64 (CheckV p l1 l2 l3)) ∧ Below w.heap.size w w' := by
  have hu26 := Tryd.underlying26
  have hmf : ∀ (fn : Fn) (first cap : Array Value) (w : World), (Instr.makeFunc fn first cap).run Tryd.prog w = .ok (.func fn first cap) w := fun _ _ _ _ => rfl
  have HR1 := Aside0.mk hr1
  have HR2 := Aside0.mk hr2
  have HR3 := Aside0.mk hr3
  have HM1 := Aside0.mk hc1
  have HM2 := Aside0.mk hc2
  have HM3 := Aside0.mk hc3
  have HS := Aside0.mk hS
  have HT := Aside0.mk hT
  clear hr1 hr2 hr3 hS hT hc1 hc2 hc3
  have HB0 := Aside0.mk (below_alloc (Below.refl w.heap.size w) (.cells #[.int .i64 p, .slice A1 l1.length c1, .slice A2 l2.length c2, .slice A3 l3.length c3] 26))
  have BX0 := Aside0.mk (blk_new w (.cells #[.int .i64 p, .slice A1 l1.length c1, .slice A2 l2.length c2, .slice A3 l3.length c3] 26))
  by_cases p1 : p < 1
  · have CV := Aside0.mk (show CheckV p l1 l2 l3 = 2 from if_pos (.inl p1))
    have d1 : decide (p < 1) = true := decide_eq_true p1
    clear p1
    go_enter Tryd.func16, Tryd.ntmps16
    go_wp2
    go_ret
    exact ⟨by rw [CV.out]; rfl, HB0.out⟩
  have d1 : decide (p < 1) = false := decide_eq_false p1
  by_cases p2 : 67108864 < p
  · have CV := Aside0.mk (show CheckV p l1 l2 l3 = 2 from if_pos (.inr p2))
    have d2 : decide (67108864 < p) = true := decide_eq_true p2
    clear p1 p2
    go_enter Tryd.func16, Tryd.ntmps16
    go_wp2
    go_ret
    exact ⟨by rw [CV.out]; rfl, HB0.out⟩
  have d2 : decide (67108864 < p) = false := decide_eq_false p2
  have NP := Aside0.mk (show ¬ (p < 1 ∨ 67108864 < p) by omega)
  clear p1 p2
  by_cases n1 : 128 < l1.length
  · have CV := Aside0.mk (show CheckV p l1 l2 l3 = 3 by unfold CheckV; rw [if_neg NP.out, if_pos (.inl n1)])
    have d3 : decide (128 < (l1.length : Int)) = true := decide_eq_true (by omega)
    clear n1
    go_enter Tryd.func16, Tryd.ntmps16
    go_wp2
    go_ret
    exact ⟨by rw [CV.out]; rfl, HB0.out⟩
  have d3 : decide (128 < (l1.length : Int)) = false := decide_eq_false (by omega)
  by_cases n2 : 128 < l2.length
  · have CV := Aside0.mk (show CheckV p l1 l2 l3 = 3 by unfold CheckV; rw [if_neg NP.out, if_pos (.inr (.inl n2))])
    have d4 : decide (128 < (l2.length : Int)) = true := decide_eq_true (by omega)
    clear n1 n2
    go_enter Tryd.func16, Tryd.ntmps16
    go_wp2
    go_ret
    exact ⟨by rw [CV.out]; rfl, HB0.out⟩
  have d4 : decide (128 < (l2.length : Int)) = false := decide_eq_false (by omega)
  by_cases n3 : 64 < l3.length
  · have CV := Aside0.mk (show CheckV p l1 l2 l3 = 3 by unfold CheckV; rw [if_neg NP.out, if_pos (.inr (.inr n3))])
    have d5 : decide (64 < (l3.length : Int)) = true := decide_eq_true (by omega)
    clear n1 n2 n3
    go_enter Tryd.func16, Tryd.ntmps16
    go_wp2
    go_ret
    exact ⟨by rw [CV.out]; rfl, HB0.out⟩
  have d5 : decide (64 < (l3.length : Int)) = false := decide_eq_false (by omega)
  have NL := Aside0.mk (show ¬ (128 < l1.length ∨ 128 < l2.length ∨ 64 < l3.length) by omega)
  have k1 : l1.length ≤ 128 := by omega
  have k2 : l2.length ≤ 128 := by omega
  have k3 : l3.length ≤ 64 := by omega
  clear n1 n2 n3
  go_enter Tryd.func16, Tryd.ntmps16
  go_wp2
  go_loopw [36] (fun v wr => ∃ i : Int, 0 ≤ i ∧ i ≤ l1.length ∧ v = .int .i64 i ∧ Aside0 (Below w.heap.size w wr) ∧ Aside0 (wr.heap[w.heap.size]? = some (.cells #[.int .i64 p, .slice A1 l1.length c1, .slice A2 l2.length c2, .slice A3 l3.length c3] 26 (0, 0))) ∧ Aside0 (∀ j : Nat, (j : Int) < i → errI l1 j = 0)) (fun v _ => (l1.length - (intOf v).toNat))
  case atStart => exact ⟨0, by omega, by omega, rfl, HB0, BX0, ⟨fun j hj => by omega⟩⟩
  case round =>
    clear HB0 BX0
    obtain ⟨i, h0, h1, rfl, HB, BX, HZ⟩ := hrel
    by_cases hlt : i < l1.length
    · obtain ⟨ad, rfl, d0, d1, d2⟩ := at_T51 (Kd.C_below HR1.out HB.out) i h0 hlt
      have e1 : decide (i < (l1.length : Int)) = true := decide_eq_true hlt
      have EI := Aside0.mk (show errI l1 i.toNat = if nmB (rd_T51 l1 i).f0 = false then 9 else if badI (rd_T51 l1 i) = true then 2 else if (l1.take i.toNat).any (nmq51 (rd_T51 l1 i).f0) = true then 6 else 0 from rfl)
      have SX := Aside0.mk (HS.out.1 (rd_T51 l1 i) (rd_mem l1 z51 i h0 hlt))
      have CV := Aside0.mk (fun ne : errI l1 i.toNat ≠ 0 => cv1 NP.out NL.out h0 hlt HZ.out ne)
      generalize rd_T51 l1 i = x at *
      have BK := Aside0.mk (blk_new wr (.cells #[.string x.f0, .int .i64 x.f1.f0, .int .i64 x.f1.f1] 51))
      have HB1 := Aside0.mk (below_alloc HB.out (.cells #[.string x.f0, .int .i64 x.f1.f0, .int .i64 x.f1.f1] 51))
      have BX1 := Aside0.mk (blk_alloc BX.out (.cells #[.string x.f0, .int .i64 x.f1.f0, .int .i64 x.f1.f1] 51))
      clear HB BX
      go_wp2_with fail
      refine (nm_call x.f0 SX.out _).mono ?_
      rintro ev w2 ⟨rfl, hw2⟩
      have HB2 := Aside0.mk (below_step HB1.out hw2)
      have BK2 := Aside0.mk (blk_below BK.out hw2)
      have BX2 := Aside0.mk (blk_below BX1.out hw2)
      clear HB1 BK BX1 hw2 d0 d1 d2
      have d0 := cells3 BK2.out
      have b1 : w2.cell? ⟨w.heap.size, 1, none⟩ = some (.slice (some ad) l1.length c1) := by rw [Lib.cell_of_heap BX2.out]; rfl
      obtain ⟨d0, d1, d2⟩ := d0
      cases hnm : nmB x.f0 with
      | false =>
        have EV := Aside0.mk (EI.out.trans (if_pos hnm))
        have CW := Aside0.mk ((CV.out (by rw [EV.out]; decide)).trans EV.out)
        clear hnm EI CV EV
        go_wp2
        go_ret
        exact ⟨by rw [CW.out]; rfl, HB2.out⟩
      | true =>
        have EI2 := Aside0.mk (EI.out.trans (if_neg (by rw [hnm]; decide)))
        clear hnm EI
        by_cases q : x.f1.f0 < 0
        · have EV := Aside0.mk (EI2.out.trans (if_pos (by unfold badI; rw [decide_eq_true q]; rfl)))
          have CW := Aside0.mk ((CV.out (by rw [EV.out]; decide)).trans EV.out)
          have dq : decide (x.f1.f0 < 0) = true := decide_eq_true q
          clear q EI2 CV EV
          go_wp2
          go_ret
          exact ⟨by rw [CW.out]; rfl, HB2.out⟩
        have t1 : decide (x.f1.f0 < 0) = false := decide_eq_false q
        clear q
        by_cases q : x.f1.f1 < x.f1.f0
        · have EV := Aside0.mk (EI2.out.trans (if_pos (by unfold badI; rw [decide_eq_true q, Bool.or_true]; rfl)))
          have CW := Aside0.mk ((CV.out (by rw [EV.out]; decide)).trans EV.out)
          have dq : decide (x.f1.f1 < x.f1.f0) = true := decide_eq_true q
          clear q EI2 CV EV
          go_wp2
          go_ret
          exact ⟨by rw [CW.out]; rfl, HB2.out⟩
        have t2 : decide (x.f1.f1 < x.f1.f0) = false := decide_eq_false q
        clear q
        by_cases q : 16777216 < x.f1.f1
        · have EV := Aside0.mk (EI2.out.trans (if_pos (by unfold badI; rw [decide_eq_true q, Bool.or_true])))
          have CW := Aside0.mk ((CV.out (by rw [EV.out]; decide)).trans EV.out)
          have dq : decide (16777216 < x.f1.f1) = true := decide_eq_true q
          clear q EI2 CV EV
          go_wp2
          go_ret
          exact ⟨by rw [CW.out]; rfl, HB2.out⟩
        have t3 : decide (16777216 < x.f1.f1) = false := decide_eq_false q
        clear q
        have EI3 := Aside0.mk (EI2.out.trans (if_neg (by unfold badI; rw [t1, t2, t3]; decide)))
        clear EI2
        have e2 : (0 ≤ i) = True := eq_true h0
        have e3 : (i ≤ (c1 : Int)) = True := eq_true (by have := HM1.out; omega)
        have hln : (l1.take i.toNat).length = i.toNat := by rw [List.length_take]; omega
        have CC := has51 (some ad) c1 (l1.take i.toNat) wr.heap.size x.f0 w2 (Kd.C_take (Kd.C_below HR1.out HB2.out) (by omega)) (cells3 BK2.out).1 (blk_lt BK2.out)
        rw [hln] at CC
        have HCC := Aside0.mk CC
        clear CC hln
        go_wp2_with fail
        refine HCC.out.mono ?_
        rintro ev w3 ⟨rfl, hw3⟩
        have HB3 := Aside0.mk (below_step HB2.out hw3)
        have BX3 := Aside0.mk (blk_below BX2.out hw3)
        clear hw3 HCC HB2 BX2 BK2 d0 d1 d2 b1
        cases htw : (l1.take i.toNat).any (nmq51 x.f0) with
        | true =>
          have EV := Aside0.mk (EI3.out.trans (if_pos htw))
          have CW := Aside0.mk ((CV.out (by rw [EV.out]; decide)).trans EV.out)
          clear htw EI3 CV EV
          go_wp2
          go_ret
          exact ⟨by rw [CW.out]; rfl, HB3.out⟩
        | false =>
          have EV := Aside0.mk (EI3.out.trans (if_neg (by rw [htw]; decide)))
          have HZ2 := Aside0.mk (next0 h0 HZ.out EV.out)
          clear htw EI3 CV EV HZ
          go_wp2
          go_roundw
          case rel => exact ⟨i + 1, by omega, by omega, by go_num, HB3, BX3, HZ2⟩
          case measure => simp [intOf]; omega
    · have e1 : decide (i < (l1.length : Int)) = false := decide_eq_false hlt
      have Z1 := Aside0.mk (all0 h1 hlt HZ.out)
      have HB0 := HB
      have BX0 := BX
      have b2 : wr.cell? ⟨w.heap.size, 2, none⟩ = some (.slice A2 l2.length c2) := by rw [Lib.cell_of_heap BX0.out]; rfl
      clear HZ HB BX hlt h0 h1
      go_wp2_with fail
      go_loopw [77] (fun v wr => ∃ i : Int, 0 ≤ i ∧ i ≤ l2.length ∧ v = .int .i64 i ∧ Aside0 (Below w.heap.size w wr) ∧ Aside0 (wr.heap[w.heap.size]? = some (.cells #[.int .i64 p, .slice A1 l1.length c1, .slice A2 l2.length c2, .slice A3 l3.length c3] 26 (0, 0))) ∧ Aside0 (∀ j : Nat, (j : Int) < i → errO l2 j = 0)) (fun v _ => (l2.length - (intOf v).toNat))
      case atStart => exact ⟨0, by omega, by omega, rfl, HB0, BX0, ⟨fun j hj => by omega⟩⟩
      case round =>
        clear HB0 BX0 b2 e1
        obtain ⟨i, h0, h1, rfl, HB, BX, HZ⟩ := hrel
        by_cases hlt : i < l2.length
        · obtain ⟨ad, rfl, d0, d1⟩ := at_T53 (Kd.C_below HR2.out HB.out) i h0 hlt
          have e1 : decide (i < (l2.length : Int)) = true := decide_eq_true hlt
          have EI := Aside0.mk (show errO l2 i.toNat = if nmB (rd_T53 l2 i).f0 = false then 9 else if badO (rd_T53 l2 i) = true then 2 else if (l2.take i.toNat).any (nmq53 (rd_T53 l2 i).f0) = true then 6 else 0 from rfl)
          have SX := Aside0.mk (HS.out.2.1 (rd_T53 l2 i) (rd_mem l2 z53 i h0 hlt))
          have CV := Aside0.mk (fun ne : errO l2 i.toNat ≠ 0 => cv2 NP.out NL.out Z1.out h0 hlt HZ.out ne)
          generalize rd_T53 l2 i = x at *
          have BK := Aside0.mk (blk_new wr (.cells #[.string x.f0, .int .i64 x.f1] 53))
          have HB1 := Aside0.mk (below_alloc HB.out (.cells #[.string x.f0, .int .i64 x.f1] 53))
          have BX1 := Aside0.mk (blk_alloc BX.out (.cells #[.string x.f0, .int .i64 x.f1] 53))
          clear HB BX
          go_wp2_with fail
          refine (nm_call x.f0 SX.out _).mono ?_
          rintro ev w2 ⟨rfl, hw2⟩
          have HB2 := Aside0.mk (below_step HB1.out hw2)
          have BK2 := Aside0.mk (blk_below BK.out hw2)
          have BX2 := Aside0.mk (blk_below BX1.out hw2)
          clear HB1 BK BX1 hw2 d0 d1
          have d0 := cells2 BK2.out
          have b1 : w2.cell? ⟨w.heap.size, 2, none⟩ = some (.slice (some ad) l2.length c2) := by rw [Lib.cell_of_heap BX2.out]; rfl
          obtain ⟨d0, d1⟩ := d0
          cases hnm : nmB x.f0 with
          | false =>
            have EV := Aside0.mk (EI.out.trans (if_pos hnm))
            have CW := Aside0.mk ((CV.out (by rw [EV.out]; decide)).trans EV.out)
            clear hnm EI CV EV
            go_wp2
            go_ret
            exact ⟨by rw [CW.out]; rfl, HB2.out⟩
          | true =>
            have EI2 := Aside0.mk (EI.out.trans (if_neg (by rw [hnm]; decide)))
            clear hnm EI
            by_cases q : x.f1 < 1
            · have EV := Aside0.mk (EI2.out.trans (if_pos (by unfold badO; rw [decide_eq_true q]; rfl)))
              have CW := Aside0.mk ((CV.out (by rw [EV.out]; decide)).trans EV.out)
              have dq : decide (x.f1 < 1) = true := decide_eq_true q
              clear q EI2 CV EV
              go_wp2
              go_ret
              exact ⟨by rw [CW.out]; rfl, HB2.out⟩
            have t1 : decide (x.f1 < 1) = false := decide_eq_false q
            clear q
            by_cases q : 16777216 < x.f1
            · have EV := Aside0.mk (EI2.out.trans (if_pos (by unfold badO; rw [decide_eq_true q, Bool.or_true])))
              have CW := Aside0.mk ((CV.out (by rw [EV.out]; decide)).trans EV.out)
              have dq : decide (16777216 < x.f1) = true := decide_eq_true q
              clear q EI2 CV EV
              go_wp2
              go_ret
              exact ⟨by rw [CW.out]; rfl, HB2.out⟩
            have t2 : decide (16777216 < x.f1) = false := decide_eq_false q
            clear q
            have EI3 := Aside0.mk (EI2.out.trans (if_neg (by unfold badO; rw [t1, t2]; decide)))
            clear EI2
            have e2 : (0 ≤ i) = True := eq_true h0
            have e3 : (i ≤ (c2 : Int)) = True := eq_true (by have := HM2.out; omega)
            have hln : (l2.take i.toNat).length = i.toNat := by rw [List.length_take]; omega
            have CC := has53 (some ad) c2 (l2.take i.toNat) wr.heap.size x.f0 w2 (Kd.C_take (Kd.C_below HR2.out HB2.out) (by omega)) (cells2 BK2.out).1 (blk_lt BK2.out)
            rw [hln] at CC
            have HCC := Aside0.mk CC
            clear CC hln
            go_wp2_with fail
            refine HCC.out.mono ?_
            rintro ev w3 ⟨rfl, hw3⟩
            have HB3 := Aside0.mk (below_step HB2.out hw3)
            have BX3 := Aside0.mk (blk_below BX2.out hw3)
            clear hw3 HCC HB2 BX2 BK2 d0 d1 b1
            cases htw : (l2.take i.toNat).any (nmq53 x.f0) with
            | true =>
              have EV := Aside0.mk (EI3.out.trans (if_pos htw))
              have CW := Aside0.mk ((CV.out (by rw [EV.out]; decide)).trans EV.out)
              clear htw EI3 CV EV
              go_wp2
              go_ret
              exact ⟨by rw [CW.out]; rfl, HB3.out⟩
            | false =>
              have EV := Aside0.mk (EI3.out.trans (if_neg (by rw [htw]; decide)))
              have HZ2 := Aside0.mk (next0 h0 HZ.out EV.out)
              clear htw EI3 CV EV HZ
              go_wp2
              go_roundw
              case rel => exact ⟨i + 1, by omega, by omega, by go_num, HB3, BX3, HZ2⟩
              case measure => simp [intOf]; omega
        · have e1 : decide (i < (l2.length : Int)) = false := decide_eq_false hlt
          have Z2 := Aside0.mk (all0 h1 hlt HZ.out)
          have HB0 := HB
          have BX0 := BX
          have b3 : wr.cell? ⟨w.heap.size, 3, none⟩ = some (.slice A3 l3.length c3) := by rw [Lib.cell_of_heap BX0.out]; rfl
          clear HZ HB BX hlt h0 h1
          go_wp2_with fail
          go_loopw [107] (fun v wr => ∃ i : Int, 0 ≤ i ∧ i ≤ l3.length ∧ v = .int .i64 i ∧ Aside0 (Below w.heap.size w wr) ∧ Aside0 (wr.heap[w.heap.size]? = some (.cells #[.int .i64 p, .slice A1 l1.length c1, .slice A2 l2.length c2, .slice A3 l3.length c3] 26 (0, 0))) ∧ Aside0 (∀ j : Nat, (j : Int) < i → errP l3 j = 0)) (fun v _ => (l3.length - (intOf v).toNat))
          case atStart => exact ⟨0, by omega, by omega, rfl, HB0, BX0, ⟨fun j hj => by omega⟩⟩
          case round =>
            clear HB0 BX0 b3 e1
            obtain ⟨i, h0, h1, rfl, HB, BX, HZ⟩ := hrel
            by_cases hlt : i < l3.length
            · obtain ⟨ad, rfl, d0, d1, d2⟩ := at_T49 (Kd.C_below HR3.out HB.out) i h0 hlt
              have e1 : decide (i < (l3.length : Int)) = true := decide_eq_true hlt
              have EI := Aside0.mk (show errP l3 i.toNat = if badP (rd_T49 l3 i) = true then 9 else if badC (rd_T49 l3 i) = true then 2 else 0 from rfl)
              have SX := Aside0.mk (HS.out.2.2 (rd_T49 l3 i) (rd_mem l3 z49 i h0 hlt))
              have CV := Aside0.mk (fun ne : errP l3 i.toNat ≠ 0 => cv3 NP.out NL.out Z1.out Z2.out h0 hlt HZ.out ne)
              generalize rd_T49 l3 i = x at *
              have BK1 := Aside0.mk (blk_new wr (.cells #[.string x.f0, .string x.f1, .int .i64 x.f2] 49))
              have HB1 := Aside0.mk (below_alloc HB.out (.cells #[.string x.f0, .string x.f1, .int .i64 x.f2] 49))
              have BX1 := Aside0.mk (blk_alloc BX.out (.cells #[.string x.f0, .string x.f1, .int .i64 x.f2] 49))
              clear HB BX
              by_cases q : x.f0.size = 0
              · have qa0 : (x.f0.toList == ([] : List UInt8)) = true := beq_iff_eq.mpr ((ba_nil _).mpr q)
                have qb0 : (x.f0.toList != ([] : List UInt8)) = false := bne_eq_false_iff_eq.mpr ((ba_nil _).mpr q)
                have PA := Aside0.mk (show (!(x.f0.size == 0) && !(nmB x.f0)) = false by rw [beq_iff_eq.mpr q]; rfl)
                clear q
                by_cases q : x.f1.size = 0
                · have qa : (x.f1.toList == ([] : List UInt8)) = true := beq_iff_eq.mpr ((ba_nil _).mpr q)
                  have qb : (x.f1.toList != ([] : List UInt8)) = false := bne_eq_false_iff_eq.mpr ((ba_nil _).mpr q)
                  have PBV : badP x = false := by unfold badP; rw [PA.out, beq_iff_eq.mpr q]; rfl
                  clear q PA
                  have PB := Aside0.mk PBV
                  have EI2 := Aside0.mk (EI.out.trans (if_neg (by rw [PB.out]; decide)))
                  clear PBV PB EI
                  by_cases q : x.f2 < 0
                  · have EV := Aside0.mk (EI2.out.trans (if_pos (by unfold badC; rw [decide_eq_true q]; rfl)))
                    have CW := Aside0.mk ((CV.out (by rw [EV.out]; decide)).trans EV.out)
                    have dq : decide (x.f2 < 0) = true := decide_eq_true q
                    clear q EI2 CV EV
                    go_wp2
                    go_ret
                    exact ⟨by rw [CW.out]; rfl, HB1.out⟩
                  have t1 : decide (x.f2 < 0) = false := decide_eq_false q
                  clear q
                  by_cases q : 16 < x.f2
                  · have EV := Aside0.mk (EI2.out.trans (if_pos (by unfold badC; rw [decide_eq_true q, Bool.or_true]; rfl)))
                    have CW := Aside0.mk ((CV.out (by rw [EV.out]; decide)).trans EV.out)
                    have dq : decide (16 < x.f2) = true := decide_eq_true q
                    clear q EI2 CV EV
                    go_wp2
                    go_ret
                    exact ⟨by rw [CW.out]; rfl, HB1.out⟩
                  have t2 : decide (16 < x.f2) = false := decide_eq_false q
                  clear q
                  by_cases q : x.f2 = 1
                  · have EV := Aside0.mk (EI2.out.trans (if_pos (by unfold badC; rw [beq_iff_eq.mpr q, Bool.or_true])))
                    have CW := Aside0.mk ((CV.out (by rw [EV.out]; decide)).trans EV.out)
                    have dq : (x.f2 == 1) = true := beq_iff_eq.mpr q
                    clear q EI2 CV EV
                    go_wp2
                    go_ret
                    exact ⟨by rw [CW.out]; rfl, HB1.out⟩
                  have t3 : (x.f2 == 1) = false := beq_eq_false_iff_ne.mpr q
                  clear q
                  have EV := Aside0.mk (EI2.out.trans (if_neg (by unfold badC; rw [t1, t2, t3]; decide)))
                  have HZ2 := Aside0.mk (next0 h0 HZ.out EV.out)
                  clear EI2 CV EV HZ
                  go_wp2
                  go_roundw
                  case rel => exact ⟨i + 1, by omega, by omega, by go_num, HB1, BX1, HZ2⟩
                  case measure => simp [intOf]; omega
                have qa : (x.f1.toList == ([] : List UInt8)) = false := beq_eq_false_iff_ne.mpr (fun e => q ((ba_nil _).mp e))
                have qb : (x.f1.toList != ([] : List UInt8)) = true := bne_iff_ne.mpr (fun e => q ((ba_nil _).mp e))
                have qz := Aside0.mk (beq_eq_false_iff_ne.mpr q)
                clear q
                go_wp2_with fail
                refine (nm_call x.f1 SX.out.2 _).mono ?_
                rintro ev w2 ⟨rfl, hw⟩
                have HB2 := Aside0.mk (below_step HB1.out hw)
                have BK2 := Aside0.mk (blk_below BK1.out hw)
                have BX2 := Aside0.mk (blk_below BX1.out hw)
                clear hw d0 d1 d2
                obtain ⟨d0, d1, d2⟩ := cells3 BK2.out
                cases hnm : nmB x.f1 with
                | false =>
                  have EV := Aside0.mk (EI.out.trans (if_pos (by unfold badP; rw [qz.out, hnm, PA.out]; rfl)))
                  have CW := Aside0.mk ((CV.out (by rw [EV.out]; decide)).trans EV.out)
                  clear hnm EI CV EV PA
                  go_wp2
                  go_ret
                  exact ⟨by rw [CW.out]; rfl, HB2.out⟩
                | true =>
                  have PBV : badP x = false := by unfold badP; rw [PA.out, hnm, Bool.not_true, Bool.and_false]; rfl
                  clear hnm PA
                  have PB := Aside0.mk PBV
                  have EI2 := Aside0.mk (EI.out.trans (if_neg (by rw [PB.out]; decide)))
                  clear PBV PB EI
                  by_cases q : x.f2 < 0
                  · have EV := Aside0.mk (EI2.out.trans (if_pos (by unfold badC; rw [decide_eq_true q]; rfl)))
                    have CW := Aside0.mk ((CV.out (by rw [EV.out]; decide)).trans EV.out)
                    have dq : decide (x.f2 < 0) = true := decide_eq_true q
                    clear q EI2 CV EV
                    go_wp2
                    go_ret
                    exact ⟨by rw [CW.out]; rfl, HB2.out⟩
                  have t1 : decide (x.f2 < 0) = false := decide_eq_false q
                  clear q
                  by_cases q : 16 < x.f2
                  · have EV := Aside0.mk (EI2.out.trans (if_pos (by unfold badC; rw [decide_eq_true q, Bool.or_true]; rfl)))
                    have CW := Aside0.mk ((CV.out (by rw [EV.out]; decide)).trans EV.out)
                    have dq : decide (16 < x.f2) = true := decide_eq_true q
                    clear q EI2 CV EV
                    go_wp2
                    go_ret
                    exact ⟨by rw [CW.out]; rfl, HB2.out⟩
                  have t2 : decide (16 < x.f2) = false := decide_eq_false q
                  clear q
                  by_cases q : x.f2 = 1
                  · have EV := Aside0.mk (EI2.out.trans (if_pos (by unfold badC; rw [beq_iff_eq.mpr q, Bool.or_true])))
                    have CW := Aside0.mk ((CV.out (by rw [EV.out]; decide)).trans EV.out)
                    have dq : (x.f2 == 1) = true := beq_iff_eq.mpr q
                    clear q EI2 CV EV
                    go_wp2
                    go_ret
                    exact ⟨by rw [CW.out]; rfl, HB2.out⟩
                  have t3 : (x.f2 == 1) = false := beq_eq_false_iff_ne.mpr q
                  clear q
                  have EV := Aside0.mk (EI2.out.trans (if_neg (by unfold badC; rw [t1, t2, t3]; decide)))
                  have HZ2 := Aside0.mk (next0 h0 HZ.out EV.out)
                  clear EI2 CV EV HZ
                  go_wp2
                  go_roundw
                  case rel => exact ⟨i + 1, by omega, by omega, by go_num, HB2, BX2, HZ2⟩
                  case measure => simp [intOf]; omega
              · have qa0 : (x.f0.toList == ([] : List UInt8)) = false := beq_eq_false_iff_ne.mpr (fun e => q ((ba_nil _).mp e))
                have qb0 : (x.f0.toList != ([] : List UInt8)) = true := bne_iff_ne.mpr (fun e => q ((ba_nil _).mp e))
                have qz := Aside0.mk (beq_eq_false_iff_ne.mpr q)
                clear q
                go_wp2_with fail
                refine (nm_call x.f0 SX.out.1 _).mono ?_
                rintro ev w2 ⟨rfl, hw⟩
                have HB2 := Aside0.mk (below_step HB1.out hw)
                have BK2 := Aside0.mk (blk_below BK1.out hw)
                have BX2 := Aside0.mk (blk_below BX1.out hw)
                clear hw d0 d1 d2
                obtain ⟨d0, d1, d2⟩ := cells3 BK2.out
                cases hnm : nmB x.f0 with
                | false =>
                  have EV := Aside0.mk (EI.out.trans (if_pos (by unfold badP; rw [qz.out, hnm]; rfl)))
                  have CW := Aside0.mk ((CV.out (by rw [EV.out]; decide)).trans EV.out)
                  clear hnm EI CV EV
                  go_wp2
                  go_ret
                  exact ⟨by rw [CW.out]; rfl, HB2.out⟩
                | true =>
                  have PA := Aside0.mk (show (!(x.f0.size == 0) && !(nmB x.f0)) = false by rw [hnm, Bool.not_true, Bool.and_false])
                  clear hnm
                  by_cases q : x.f1.size = 0
                  · have qa : (x.f1.toList == ([] : List UInt8)) = true := beq_iff_eq.mpr ((ba_nil _).mpr q)
                    have qb : (x.f1.toList != ([] : List UInt8)) = false := bne_eq_false_iff_eq.mpr ((ba_nil _).mpr q)
                    have PBV : badP x = false := by unfold badP; rw [PA.out, beq_iff_eq.mpr q]; rfl
                    clear q PA
                    have PB := Aside0.mk PBV
                    have EI2 := Aside0.mk (EI.out.trans (if_neg (by rw [PB.out]; decide)))
                    clear PBV PB EI
                    by_cases q : x.f2 < 0
                    · have EV := Aside0.mk (EI2.out.trans (if_pos (by unfold badC; rw [decide_eq_true q]; rfl)))
                      have CW := Aside0.mk ((CV.out (by rw [EV.out]; decide)).trans EV.out)
                      have dq : decide (x.f2 < 0) = true := decide_eq_true q
                      clear q EI2 CV EV
                      go_wp2
                      go_ret
                      exact ⟨by rw [CW.out]; rfl, HB2.out⟩
                    have t1 : decide (x.f2 < 0) = false := decide_eq_false q
                    clear q
                    by_cases q : 16 < x.f2
                    · have EV := Aside0.mk (EI2.out.trans (if_pos (by unfold badC; rw [decide_eq_true q, Bool.or_true]; rfl)))
                      have CW := Aside0.mk ((CV.out (by rw [EV.out]; decide)).trans EV.out)
                      have dq : decide (16 < x.f2) = true := decide_eq_true q
                      clear q EI2 CV EV
                      go_wp2
                      go_ret
                      exact ⟨by rw [CW.out]; rfl, HB2.out⟩
                    have t2 : decide (16 < x.f2) = false := decide_eq_false q
                    clear q
                    by_cases q : x.f2 = 1
                    · have EV := Aside0.mk (EI2.out.trans (if_pos (by unfold badC; rw [beq_iff_eq.mpr q, Bool.or_true])))
                      have CW := Aside0.mk ((CV.out (by rw [EV.out]; decide)).trans EV.out)
                      have dq : (x.f2 == 1) = true := beq_iff_eq.mpr q
                      clear q EI2 CV EV
                      go_wp2
                      go_ret
                      exact ⟨by rw [CW.out]; rfl, HB2.out⟩
                    have t3 : (x.f2 == 1) = false := beq_eq_false_iff_ne.mpr q
                    clear q
                    have EV := Aside0.mk (EI2.out.trans (if_neg (by unfold badC; rw [t1, t2, t3]; decide)))
                    have HZ2 := Aside0.mk (next0 h0 HZ.out EV.out)
                    clear EI2 CV EV HZ
                    go_wp2
                    go_roundw
                    case rel => exact ⟨i + 1, by omega, by omega, by go_num, HB2, BX2, HZ2⟩
                    case measure => simp [intOf]; omega
                  have qa : (x.f1.toList == ([] : List UInt8)) = false := beq_eq_false_iff_ne.mpr (fun e => q ((ba_nil _).mp e))
                  have qb : (x.f1.toList != ([] : List UInt8)) = true := bne_iff_ne.mpr (fun e => q ((ba_nil _).mp e))
                  have qz := Aside0.mk (beq_eq_false_iff_ne.mpr q)
                  clear q
                  go_wp2_with fail
                  refine (nm_call x.f1 SX.out.2 _).mono ?_
                  rintro ev w3 ⟨rfl, hw⟩
                  have HB3 := Aside0.mk (below_step HB2.out hw)
                  have BK3 := Aside0.mk (blk_below BK2.out hw)
                  have BX3 := Aside0.mk (blk_below BX2.out hw)
                  clear hw d0 d1 d2
                  obtain ⟨d0, d1, d2⟩ := cells3 BK3.out
                  cases hnm : nmB x.f1 with
                  | false =>
                    have EV := Aside0.mk (EI.out.trans (if_pos (by unfold badP; rw [qz.out, hnm, PA.out]; rfl)))
                    have CW := Aside0.mk ((CV.out (by rw [EV.out]; decide)).trans EV.out)
                    clear hnm EI CV EV PA
                    go_wp2
                    go_ret
                    exact ⟨by rw [CW.out]; rfl, HB3.out⟩
                  | true =>
                    have PBV : badP x = false := by unfold badP; rw [PA.out, hnm, Bool.not_true, Bool.and_false]; rfl
                    clear hnm PA
                    have PB := Aside0.mk PBV
                    have EI2 := Aside0.mk (EI.out.trans (if_neg (by rw [PB.out]; decide)))
                    clear PBV PB EI
                    by_cases q : x.f2 < 0
                    · have EV := Aside0.mk (EI2.out.trans (if_pos (by unfold badC; rw [decide_eq_true q]; rfl)))
                      have CW := Aside0.mk ((CV.out (by rw [EV.out]; decide)).trans EV.out)
                      have dq : decide (x.f2 < 0) = true := decide_eq_true q
                      clear q EI2 CV EV
                      go_wp2
                      go_ret
                      exact ⟨by rw [CW.out]; rfl, HB3.out⟩
                    have t1 : decide (x.f2 < 0) = false := decide_eq_false q
                    clear q
                    by_cases q : 16 < x.f2
                    · have EV := Aside0.mk (EI2.out.trans (if_pos (by unfold badC; rw [decide_eq_true q, Bool.or_true]; rfl)))
                      have CW := Aside0.mk ((CV.out (by rw [EV.out]; decide)).trans EV.out)
                      have dq : decide (16 < x.f2) = true := decide_eq_true q
                      clear q EI2 CV EV
                      go_wp2
                      go_ret
                      exact ⟨by rw [CW.out]; rfl, HB3.out⟩
                    have t2 : decide (16 < x.f2) = false := decide_eq_false q
                    clear q
                    by_cases q : x.f2 = 1
                    · have EV := Aside0.mk (EI2.out.trans (if_pos (by unfold badC; rw [beq_iff_eq.mpr q, Bool.or_true])))
                      have CW := Aside0.mk ((CV.out (by rw [EV.out]; decide)).trans EV.out)
                      have dq : (x.f2 == 1) = true := beq_iff_eq.mpr q
                      clear q EI2 CV EV
                      go_wp2
                      go_ret
                      exact ⟨by rw [CW.out]; rfl, HB3.out⟩
                    have t3 : (x.f2 == 1) = false := beq_eq_false_iff_ne.mpr q
                    clear q
                    have EV := Aside0.mk (EI2.out.trans (if_neg (by unfold badC; rw [t1, t2, t3]; decide)))
                    have HZ2 := Aside0.mk (next0 h0 HZ.out EV.out)
                    clear EI2 CV EV HZ
                    go_wp2
                    go_roundw
                    case rel => exact ⟨i + 1, by omega, by omega, by go_num, HB3, BX3, HZ2⟩
                    case measure => simp [intOf]; omega
            · have e1 : decide (i < (l3.length : Int)) = false := decide_eq_false hlt
              have Z3 := Aside0.mk (all0 h1 hlt HZ.out)
              have CV := Aside0.mk (cv4 NP.out NL.out Z1.out Z2.out Z3.out)
              have FT := fits HT.out (by have := NP.out; omega) k1 k2 k3 Z1.out Z2.out Z3.out
              obtain ⟨lim, f1, f2, f3, f4, f5⟩ := FT
              have g0 : wr.cell? ⟨w.heap.size, 0, none⟩ = some (.int .i64 p) := by rw [Lib.cell_of_heap BX.out]; rfl
              have g1 : wr.cell? ⟨w.heap.size, 1, none⟩ = some (.slice A1 l1.length c1) := by rw [Lib.cell_of_heap BX.out]; rfl
              have g2 : wr.cell? ⟨w.heap.size, 2, none⟩ = some (.slice A2 l2.length c2) := by rw [Lib.cell_of_heap BX.out]; rfl
              have g3 : wr.cell? ⟨w.heap.size, 3, none⟩ = some (.slice A3 l3.length c3) := by rw [Lib.cell_of_heap BX.out]; rfl
              have WC := Aside0.mk (write_calls lim p A1 c1 l1 A2 c2 l2 A3 c3 l3 wr (Kd.C_below HR1.out HB.out) HM1.out (Kd.C_below HR2.out HB.out) HM2.out (Kd.C_below HR3.out HB.out) HM3.out (okL_step f1 HB.out) f2 f3 f4 f5)
              have WL := Aside0.mk (wr_len f1 f2 f3 f4 f5)
              clear f1 f2 f3 f4 f5 HZ hlt h0 h1
              go_wp2_with fail
              refine WC.out.mono ?_
              rintro ev w2 ⟨rfl, hw⟩
              have HB2 := Aside0.mk (below_step HB.out hw)
              have d6 : decide (262144 < ((wrL p l1 l2 l3).length : Int)) = false := decide_eq_false (by have := WL.out; omega)
              clear hw WC HB BX
              go_wp2
              go_ret
              exact ⟨by rw [CV.out]; rfl, HB2.out⟩
end Go.Proofs.YtodgaaggmlgenaaDoor.PC
