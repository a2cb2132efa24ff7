/- The walk of the law TreeArrives, by hand: a closure that captures the library, two regions that draw their order. No conditions. -/
import Derived.Test.YtagpbgabcenodaaPBx5
import Derived.Test.YtagpbgabcenodaaPBx24
import Derived.Test.YtagpbgabcenodaaPBx28
import Derived.Test.YtagpbgabcenodaaLTAArr
namespace Go.Proofs.Ytagpbgabcenodaa.PB
open Go.RowKit Go.Proofs.YtagpbgabcenodaaW.PrintWords Go.Proofs.YtagpbgabcenodaaW.PrintLast Go.Proofs.YtagpbgabcenodaaW.PrintMore Go.Proofs.Ytagpbgabcenodaa.LTA
set_option linter.unusedVariables false
set_option linter.unusedSimpArgs false

def masklaw4_TreeArrives.f (a0_0 : Int) (l0_1 : List Int) (l0_2 : List Int) (l1 : List (S32)) (l2 : List Int) : Option Bool := some true
set_option maxHeartbeats 1000000 in
set_option maxRecDepth 100000 in
theorem ta_clo (x : Int) (A1 : Option Addr) (c1 : Nat) (l : List Cel) (g : Nat) (w : World) (hg : w.cell? ⟨g, 0, none⟩ = some (.slice A1 l.length c1)) (hr : Kd.C k32 w A1 l.length l) :
    Calls Try.prog 18 #[.int .i64 x, .pointer (some ⟨g, 0, none⟩)] w fun e w' => e = .returned (.bool (badc l x)) ∧ Below w.heap.size w w' := by
  have h63 : l.length ≤ 9223372036854775807 := hr.2.1
  have HR := Aside0.mk hr
  clear hr
  cases h1 : decide (0 ≤ x ∧ x ≤ (l.length : Int) - 1) with
  | false =>
    have HF := Aside0.mk (show badc l x = true by unfold badc; rw [h1]; rfl)
    have HI := Aside0.mk (show maskref4_In.f x 0 ((l.length : Int) - 1) = some false by rw [in_eq, h1])
    clear h1
    go_enter Try.func18, Try.ntmps18
    go_wp2_with fail
    refine (maskref4_In.calls x 0 ((l.length : Int) - 1) false _ HI.out).mono ?_
    rintro e w1 ⟨rfl, hw1⟩
    have HB := Aside0.mk hw1.below
    clear hw1
    go_wp2
    go_ret
    exact ⟨by rw [HF.out]; rfl, HB.out⟩
  | true =>
    have h2 := of_decide_eq_true h1
    have HF := Aside0.mk (show badc l x = !(rd_T32 l x).f1 by unfold badc; rw [h1]; rfl)
    have HI := Aside0.mk (show maskref4_In.f x 0 ((l.length : Int) - 1) = some true by rw [in_eq, h1])
    clear h1
    have hx0 : 0 ≤ x := h2.1
    have hx1 : x < (l.length : Int) := by omega
    go_enter Try.func18, Try.ntmps18
    go_wp2_with fail
    refine (maskref4_In.calls x 0 ((l.length : Int) - 1) true _ HI.out).mono ?_
    rintro e w1 ⟨rfl, hw1⟩
    have HB := Aside0.mk hw1.below
    obtain ⟨ad, A5, c5, A6, c6, A7, c7, rfl, d0, d1, dr⟩ := at_T32 (Kd.C_below HR.out HB.out) x hx0 hx1
    have hg1 := (hw1.below.cell (World.block_lt_of_cell? w _ hg)).trans hg
    clear hw1 dr d0 h2 hg
    go_wp2
    go_ret
    exact ⟨by rw [HF.out]; rfl, HB.out⟩

set_option maxHeartbeats 1000000 in
set_option maxRecDepth 100000 in
theorem ta_idx (A0 : Option Addr) (c0 : Nat) (xs : List Int) (A1 : Option Addr) (c1 : Nat) (l : List Cel) (g : Nat) (w : World) (hx : Kd.C (Kd.int .i64) w A0 xs.length xs) (hg : w.cell? ⟨g, 0, none⟩ = some (.slice A1 l.length c1)) (hr : Kd.C k32 w A1 l.length l) :
    Calls Try.prog 35 #[.slice A0 xs.length c0, .func (.func 18) #[] #[.pointer (some ⟨g, 0, none⟩)]] w fun e w' => (∃ i : Int, e = .returned (.int .i64 i) ∧ decide (0 ≤ i) = xs.any (badc l)) ∧ Below w.heap.size w w' := by
  have h63 : xs.length ≤ 9223372036854775807 := hx.2.1
  have HX := Aside0.mk hx
  have HR := Aside0.mk hr
  have HG := Aside0.mk hg
  clear hx hr hg
  go_enter Try.func35, Try.ntmps35
  go_wp2
  go_loopw [8] (fun v wr => ∃ i : Int, 0 ≤ i ∧ i ≤ xs.length ∧ v = .int .i64 i ∧ Aside0 (Below w.heap.size w wr) ∧ Aside0 (xs.any (badc l) = (xs.drop i.toNat).any (badc l))) (fun v _ => (xs.length - (intOf v).toNat))
  case atStart => exact ⟨0, by omega, by omega, rfl, ⟨Below.refl _ _⟩, ⟨by simp⟩⟩
  case round =>
    obtain ⟨i, h0, h1, rfl, hb, ha⟩ := hrel
    by_cases hlt : i < xs.length
    · obtain ⟨ad, rfl, d0⟩ := Kd.at_int (Kd.C_below HX.out hb.out) i h0 hlt
      have HG1 := Aside0.mk ((hb.out.cell (World.block_lt_of_cell? w _ HG.out)).trans HG.out)
      go_wp2_with fail
      refine (ta_clo (rd xs i) A1 c1 l g _ HG1.out (Kd.C_below HR.out hb.out)).mono ?_
      rintro e w1 ⟨rfl, hw1⟩
      have hb1 := Aside0.mk (below_step hb.out hw1)
      clear hw1 hb HG1 d0
      have hdrop : xs.drop i.toNat = rd xs i :: xs.drop (i.toNat + 1) := by
        unfold rd
        have hn : i.toNat < xs.length := by omega
        rw [List.getD_eq_getElem?_getD, List.getElem?_eq_getElem hn]
        exact List.drop_eq_getElem_cons hn
      have hany : xs.any (badc l) = (badc l (rd xs i) || (xs.drop (i.toNat + 1)).any (badc l)) := by rw [ha.out, hdrop, List.any_cons]
      clear hdrop ha
      cases hbv : badc l (rd xs i) with
      | true =>
        have hA := Aside0.mk (show xs.any (badc l) = true by rw [hany, hbv]; rfl)
        clear hany hbv
        go_wp2
        go_ret
        exact ⟨⟨i, rfl, by rw [hA.out]; exact decide_eq_true h0⟩, hb1.out⟩
      | false =>
        have hA := Aside0.mk (show xs.any (badc l) = (xs.drop (i + 1).toNat).any (badc l) by rw [hany, hbv, Bool.false_or, show (i + 1).toNat = i.toNat + 1 by omega])
        clear hany hbv
        go_wp2
        go_roundw
        case rel => exact ⟨i + 1, by omega, by omega, by go_num, hb1, hA⟩
        case measure => simp [intOf]; omega
    · have hend : i.toNat = xs.length := by omega
      have hA := Aside0.mk (show xs.any (badc l) = false by rw [ha.out, hend, List.drop_length]; rfl)
      clear ha hend
      go_wp2
      go_ret
      exact ⟨⟨-1, rfl, by rw [hA.out]; rfl⟩, hb.out⟩
set_option maxHeartbeats 1000000 in
set_option maxRecDepth 100000 in
theorem ta_has (A0 : Option Addr) (c0 : Nat) (xs : List Int) (A1 : Option Addr) (c1 : Nat) (l : List Cel) (g : Nat) (w : World) (hx : Kd.C (Kd.int .i64) w A0 xs.length xs) (hg : w.cell? ⟨g, 0, none⟩ = some (.slice A1 l.length c1)) (hr : Kd.C k32 w A1 l.length l) :
    Calls Try.prog 17 #[.slice A0 xs.length c0, .func (.func 18) #[] #[.pointer (some ⟨g, 0, none⟩)]] w fun e w' => e = .returned (.bool (xs.any (badc l))) ∧ Below w.heap.size w w' := by
  go_enter Try.func17, Try.ntmps17
  go_wp2_with fail
  refine (ta_idx A0 c0 xs A1 c1 l g w hx hg hr).mono ?_
  rintro e w1 ⟨⟨i, rfl, hi⟩, hb⟩
  have H := Aside0.mk hi
  clear hi
  go_wp2
  go_ret
  exact ⟨by first | (rw [H.out]; rfl) | (rw [← H.out]; rfl), hb⟩

set_option maxHeartbeats 4000000 in
set_option maxRecDepth 100000 in
theorem masklaw4_TreeArrives.calls (a0_0 : Int) (A0_1 : Option Addr) (c0_1 : Nat) (l0_1 : List Int) (A0_2 : Option Addr) (c0_2 : Nat) (l0_2 : List Int) (A1 : Option Addr) (c1 : Nat) (l1 : List (S32)) (A2 : Option Addr) (c2 : Nat) (l2 : List Int) (r : Bool) (w : World) (hr0_1 : Kd.C (Kd.int .i64) w A0_1 l0_1.length l0_1) (hc0_1 : l0_1.length ≤ c0_1) (hr0_2 : Kd.C (Kd.int .i64) w A0_2 l0_2.length l0_2) (hc0_2 : l0_2.length ≤ c0_2) (hr1 : Kd.C k32 w A1 l1.length l1) (hc1 : l1.length ≤ c1) (hr2 : Kd.C (Kd.int .i64) w A2 l2.length l2) (hc2 : l2.length ≤ c2) (h : masklaw4_TreeArrives.f a0_0 l0_1 l0_2 l1 l2 = some r) :
    Calls Try.prog 4 #[.agg #[.int .i64 a0_0, .slice A0_1 l0_1.length c0_1, .slice A0_2 l0_2.length c0_2], .slice A1 l1.length c1, .slice A2 l2.length c2] w fun e w' => e = .returned (.bool r) ∧ Below w.heap.size w w' := by
  obtain rfl := Option.some.inj h
  clear h
  obtain ⟨e0, R, er, ⟨K1, f1⟩, ⟨K2, f2⟩, hq⟩ := arrivals_ev a0_0 l0_1 l0_2 l1 l2
  have F1 := Aside0.mk (f1 K1 (Nat.le_refl _))
  have F2 := Aside0.mk (f2 K2 (Nat.le_refl _))
  have HQ := Aside0.mk hq
  clear f1 f2 hq
  have H01 := Aside0.mk hr0_1
  have H02 := Aside0.mk hr0_2
  have H1 := Aside0.mk hr1
  have H2 := Aside0.mk hr2
  have M := Aside0.mk (show l0_1.length ≤ c0_1 ∧ l0_2.length ≤ c0_2 ∧ l1.length ≤ c1 ∧ l2.length ≤ c2 from ⟨hc0_1, hc0_2, hc1, hc2⟩)
  have h63 : l2.length ≤ 9223372036854775807 := hr2.2.1
  clear hr0_1 hr0_2 hr1 hr2 hc0_1 hc0_2 hc1 hc2
  have HB0 := Aside0.mk (below_alloc (below_alloc (Below.refl w.heap.size w) (.cells #[.int .i64 a0_0, .slice A0_1 l0_1.length c0_1, .slice A0_2 l0_2.length c0_2] 24)) (.cells #[.slice A1 l1.length c1] 25))
  go_enter Try.func4, Try.ntmps4
  have BT := Aside0.mk (blk_alloc (blk_new w (.cells #[.int .i64 a0_0, .slice A0_1 l0_1.length c0_1, .slice A0_2 l0_2.length c0_2] 24)) (.cells #[.slice A1 l1.length c1] 25))
  have BL := Aside0.mk (Hnd.blk_new1 w (.cells #[.int .i64 a0_0, .slice A0_1 l0_1.length c0_1, .slice A0_2 l0_2.length c0_2] 24) (.cells #[.slice A1 l1.length c1] 25))
  go_wp2_with fail
  refine (masklaw4_trees.calls true _ rfl).mono ?_
  rintro e w1 ⟨rfl, hb1⟩
  have HB1 := Aside0.mk (below_step HB0.out hb1)
  have BT1 := Aside0.mk (blk_below BT.out hb1)
  have BL1 := Aside0.mk (blk_below BL.out hb1)
  clear hb1 HB0 BT BL
  have q0 : w1.cell? ⟨w.heap.size, 0, none⟩ = some (.int .i64 a0_0) := (blk_cell BT1.out 0).trans rfl
  have q1 : w1.cell? ⟨w.heap.size, 1, none⟩ = some (.slice A0_1 l0_1.length c0_1) := (blk_cell BT1.out 1).trans rfl
  have q2 : w1.cell? ⟨w.heap.size, 2, none⟩ = some (.slice A0_2 l0_2.length c0_2) := (blk_cell BT1.out 2).trans rfl
  have q3 : w1.cell? ⟨w.heap.size + 1, 0, none⟩ = some (.slice A1 l1.length c1) := (blk_cell BL1.out 0).trans rfl
  go_wp2_with fail
  refine (tree_Arrivals.calls K2 a0_0 _ _ l0_1 _ _ l0_2 _ _ l1 _ _ l2 R er _ (Kd.C_below H01.out HB1.out) M.out.1 (Kd.C_below H02.out HB1.out) M.out.2.1 (Kd.C_below H1.out HB1.out) M.out.2.2.1 (Kd.C_below H2.out HB1.out) M.out.2.2.2 F2.out).mono ?_
  rintro e w2 ⟨v0, rfl, hR, hb2⟩
  obtain ⟨A7, c7, rfl, hc7, hC7⟩ := Kd.R_reads hR
  have HB2 := Aside0.mk (below_step HB1.out hb2)
  have BT2 := Aside0.mk (blk_below BT1.out hb2)
  have BL2 := Aside0.mk (blk_below BL1.out hb2)
  have HC7 := Aside0.mk hC7
  clear hb2 HB1 BT1 BL1 q0 q1 q2 q3 hR hc7 hC7
  have q0 : w2.cell? ⟨w.heap.size, 0, none⟩ = some (.int .i64 a0_0) := (blk_cell BT2.out 0).trans rfl
  have q1 : w2.cell? ⟨w.heap.size, 1, none⟩ = some (.slice A0_1 l0_1.length c0_1) := (blk_cell BT2.out 1).trans rfl
  have q2 : w2.cell? ⟨w.heap.size, 2, none⟩ = some (.slice A0_2 l0_2.length c0_2) := (blk_cell BT2.out 2).trans rfl
  have q3 : w2.cell? ⟨w.heap.size + 1, 0, none⟩ = some (.slice A1 l1.length c1) := (blk_cell BL2.out 0).trans rfl
  go_wp2_with fail
  refine (maskref4_TreeFault.calls K1 a0_0 _ _ l0_1 _ _ l0_2 (l2.length : Int) _ _ l1 e0 _ (Kd.C_below H01.out HB2.out) M.out.1 (Kd.C_below H02.out HB2.out) M.out.2.1 (Kd.C_below H1.out HB2.out) M.out.2.2.1 F1.out).mono ?_
  rintro e w3 ⟨rfl, hb3⟩
  have HC73 := Aside0.mk (Kd.C_below HC7.out hb3)
  have HB3 := Aside0.mk (below_step HB2.out hb3)
  have BT3 := Aside0.mk (blk_below BT2.out hb3)
  have BL3 := Aside0.mk (blk_below BL2.out hb3)
  clear hb3 HB2 BT2 BL2 q0 q1 q2 q3 F1 F2 HC7
  have hqq := HQ.out
  clear HQ
  rcases hqq with ⟨n0, rfl, rfl⟩ | ⟨rfl, hany, rfl, rfl⟩ | ⟨rfl, hany, rfl, hlen, hlf, h64, hreach, hload⟩
  · have z1 : (er == 0) = false := beq_eq_false_iff_ne.mpr n0
    have z2 : (er != 0) = true := bne_iff_ne.mpr n0
    clear n0
    go_wp2
    go_ret
    exact ⟨by simp, HB3.out⟩
  · have HA := Aside0.mk hany
    have q3 : w3.cell? ⟨w.heap.size + 1, 0, none⟩ = some (.slice A1 l1.length c1) := (blk_cell BL3.out 0).trans rfl
    have hmf : ∀ (fn : Fn) (first cap : Array Value) (w : World), (Instr.makeFunc fn first cap).run Try.prog w = .ok (.func fn first cap) w := fun _ _ _ _ => rfl
    clear hany
    go_wp2_with fail
    refine (ta_has A2 c2 l2 A1 c1 l1 (w.heap.size + 1) _ (Kd.C_below H2.out HB3.out) q3 (Kd.C_below H1.out HB3.out)).mono ?_
    rintro e w4 ⟨rfl, hb4⟩
    have HB4 := Aside0.mk (below_step HB3.out hb4)
    clear hb4 q3 HB3 BT3 BL3 HC73
    rw [HA.out]
    go_wp2
    go_ret
    exact ⟨by simp, HB4.out⟩
  · have HA := Aside0.mk hany
    have HL := Aside0.mk hlen
    have HRC := Aside0.mk hreach
    have HLD := Aside0.mk hload
    have HF := Aside0.mk hlf
    clear hany hlen hreach hload hlf
    have q3 : w3.cell? ⟨w.heap.size + 1, 0, none⟩ = some (.slice A1 l1.length c1) := (blk_cell BL3.out 0).trans rfl
    have hmf : ∀ (fn : Fn) (first cap : Array Value) (w : World), (Instr.makeFunc fn first cap).run Try.prog w = .ok (.func fn first cap) w := fun _ _ _ _ => rfl
    go_wp2_with fail
    refine (ta_has A2 c2 l2 A1 c1 l1 (w.heap.size + 1) _ (Kd.C_below H2.out HB3.out) q3 (Kd.C_below H1.out HB3.out)).mono ?_
    rintro e w4 ⟨rfl, hb4⟩
    have HC74 := Aside0.mk (Kd.C_below HC73.out hb4)
    have HB4 := Aside0.mk (below_step HB3.out hb4)
    have BT4 := Aside0.mk (blk_below BT3.out hb4)
    have BL4 := Aside0.mk (blk_below BL3.out hb4)
    clear hb4 q3 HB3 BT3 BL3 HC73
    rw [HA.out]
    clear HA
    have z1 : ((R.length : Int) != (l2.length : Int)) = false := by rw [HL.out]; simp
    have z2 : (R.length != l2.length) = false := by rw [HL.out]; simp
    have q2 : w4.cell? ⟨w.heap.size, 2, none⟩ = some (.slice A0_2 l0_2.length c0_2) := (blk_cell BT4.out 2).trans rfl
    go_wp2_with fail
    have h63b : l0_2.length ≤ 9223372036854775807 := by have := HF.out; omega
    go_loopw [56] (fun v56 wr => ∃ i : Int, 0 ≤ i ∧ i ≤ l0_2.length ∧ v56 = .int .i64 i ∧ Aside0 (Below w4.heap.size w4 wr)) (fun v56 _ => (l0_2.length - (intOf v56).toNat))
    case atStart => exact ⟨0, by omega, by omega, rfl, ⟨Below.refl _ _⟩⟩
    case round =>
      clear q2
      obtain ⟨i, h0, h1, rfl, HW⟩ := hrel
      by_cases hlt : i < (l0_2.length : Int)
      · have e1 : decide (i < (l0_2.length : Int)) = true := decide_eq_true hlt
        obtain ⟨k5, hk5⟩ := HRC.out i.toNat (by omega)
        rw [Int.toNat_of_nonneg h0] at hk5
        have HX := Aside0.mk (hk5 k5 (Nat.le_refl _))
        clear hk5
        obtain ⟨ad, rfl, d0⟩ := Kd.at_int (Kd.C_below H02.out (below_step HB4.out HW.out)) i h0 hlt
        have HD := Aside0.mk (below_drew1 HW.out)
        have hl7 : i < (R.length : Int) := by have := HL.out; have := HF.out; omega
        obtain ⟨ad7, rfl, r0, r1⟩ := at_T45 (Kd.C_below HC74.out HD.out) i h0 hl7
        have q0 : wr.drew.cell? ⟨w.heap.size, 0, none⟩ = some (.int .i64 a0_0) := (blk_cell (blk_below BT4.out HD.out) 0).trans rfl
        have q1 : wr.drew.cell? ⟨w.heap.size, 1, none⟩ = some (.slice A0_1 l0_1.length c0_1) := (blk_cell (blk_below BT4.out HD.out) 1).trans rfl
        have q2 : wr.drew.cell? ⟨w.heap.size, 2, none⟩ = some (.slice (some ad) l0_2.length c0_2) := (blk_cell (blk_below BT4.out HD.out) 2).trans rfl
        have q3 : wr.drew.cell? ⟨w.heap.size + 1, 0, none⟩ = some (.slice A1 l1.length c1) := (blk_cell (blk_below BL4.out HD.out) 0).trans rfl
        clear HW
        go_wp2_with fail
        clear d0
        refine start_ (n := 10) (S := fun w' => w'.cell? (ad7.add (i.toNat * 2)) = some (.int .i64 (rd_T45 R i).f0) ∧ w'.cell? ⟨(ad7.add (i.toNat * 2)).block, (ad7.add (i.toNat * 2)).off + 1, none⟩ = some (.int .i64 (rd_T45 R i).f1) ∧ w'.cell? ⟨w.heap.size, 0, none⟩ = some (.int .i64 a0_0) ∧ w'.cell? ⟨w.heap.size, 1, none⟩ = some (.slice A0_1 l0_1.length c0_1) ∧ w'.cell? ⟨w.heap.size, 2, none⟩ = some (.slice (some ad) l0_2.length c0_2) ∧ w'.cell? ⟨w.heap.size + 1, 0, none⟩ = some (.slice A1 l1.length c1)) (ds := []) #[false, false, false, false, false, false, false, false, false, false] (by kernel_rfl) rfl rfl ⟨r0, r1, q0, q1, q2, q3⟩ (fun hHeld => ?_)
        refine pure_ (i := 0) (N := some 61) (v := ?_) (a' := ?_) #[true, false, false, false, false, false, false, false, false, false] rfl rfl (by kernel_rfl) (fun _ _ _ h => h) (Or.inl ⟨by rfl, ?_⟩) ?_ ?_
        rotate_left
        · intro w'
          go_simp
          with_reducible rfl
        rotate_left
        · simp only [Act.put, List.setIfInBounds_toArray, List.set_cons_zero, List.set_cons_succ, i64_w, i32_w]
          rfl
        refine pure_ (i := 1) (N := some 62) (v := ?_) (a' := ?_) #[true, true, false, false, false, false, false, false, false, false] rfl rfl (by kernel_rfl) (fun _ _ _ h => h) (Or.inl ⟨by rfl, ?_⟩) ?_ ?_
        rotate_left
        · intro w'
          go_simp
          with_reducible rfl
        rotate_left
        · simp only [Act.put, List.setIfInBounds_toArray, List.set_cons_zero, List.set_cons_succ, i64_w, i32_w]
          rfl
        refine pure_ (i := 2) (N := some 63) (v := ?_) (a' := ?_) #[true, true, true, false, false, false, false, false, false, false] rfl rfl (by kernel_rfl) (fun _ _ _ h => h) (Or.inl ⟨by rfl, ?_⟩) ?_ ?_
        rotate_left
        · intro w'
          go_simp
          with_reducible rfl
        rotate_left
        · simp only [Act.put, List.setIfInBounds_toArray, List.set_cons_zero, List.set_cons_succ, i64_w, i32_w]
          rfl
        refine pure_ (i := 5) (N := some 66) (v := ?_) (a' := ?_) #[true, true, true, false, false, true, false, false, false, false] rfl rfl (by kernel_rfl) (fun _ _ _ h => h) (Or.inl ⟨by rfl, ?_⟩) ?_ ?_
        rotate_left
        · intro w'
          go_simp
          with_reducible rfl
        rotate_left
        · simp only [Act.put, List.setIfInBounds_toArray, List.set_cons_zero, List.set_cons_succ, i64_w, i32_w]
          rfl
        refine pure_ (i := 7) (N := some 68) (v := ?_) (a' := ?_) #[true, true, true, false, false, true, false, true, false, false] rfl rfl (by kernel_rfl) (fun _ _ _ h => h) (Or.inl ⟨by rfl, ?_⟩) ?_ ?_
        rotate_left
        · intro w'
          go_simp
          with_reducible rfl
        rotate_left
        · simp only [Act.put, List.setIfInBounds_toArray, List.set_cons_zero, List.set_cons_succ, i64_w, i32_w]
          rfl
        refine take_ (i := 3) (N := some 64) (v := ?_) (a' := ?_) #[true, true, true, true, false, true, false, true, false, false] rfl rfl (by kernel_rfl) (fun _ _ _ h => h) (Or.inl ⟨by rfl, ?_⟩) hHeld ?_ ?_
        rotate_left
        · rintro w' ⟨s0, s1, s2, s3, s4, s5⟩
          go_simp
          with_reducible rfl
        rotate_left
        · simp only [Act.put, List.setIfInBounds_toArray, List.set_cons_zero, List.set_cons_succ, i64_w, i32_w]
          rfl
        refine take_ (i := 4) (N := some 65) (v := ?_) (a' := ?_) #[true, true, true, true, true, true, false, true, false, false] rfl rfl (by kernel_rfl) (fun _ _ _ h => h) (Or.inl ⟨by rfl, ?_⟩) hHeld ?_ ?_
        rotate_left
        · rintro w' ⟨s0, s1, s2, s3, s4, s5⟩
          go_simp
          with_reducible rfl
        rotate_left
        · simp only [Act.put, List.setIfInBounds_toArray, List.set_cons_zero, List.set_cons_succ, i64_w, i32_w]
          rfl
        refine take_ (i := 6) (N := some 67) (v := ?_) (a' := ?_) #[true, true, true, true, true, true, true, true, false, false] rfl rfl (by kernel_rfl) (fun _ _ _ h => h) (Or.inl ⟨by rfl, ?_⟩) hHeld ?_ ?_
        rotate_left
        · rintro w' ⟨s0, s1, s2, s3, s4, s5⟩
          go_simp
          with_reducible rfl
        rotate_left
        · simp only [Act.put, List.setIfInBounds_toArray, List.set_cons_zero, List.set_cons_succ, i64_w, i32_w]
          rfl
        refine one_ (i := 8) (N := some 69) #[true, true, true, true, true, true, true, true, true, false] rfl rfl (by kernel_rfl) (by decide) (fun K hK => ?_)
        refine goes_ Try.func20 (by kernel_rfl) rfl #[.agg #[.int .i64 a0_0, .slice A0_1 l0_1.length c0_1, .slice (some ad) l0_2.length c0_2], .int .i64 (rd l0_2 i), .slice A1 l1.length c1, .slice A2 l2.length c2] (by rfl) rfl rfl (by simp only [List.map_toArray, List.map_cons, List.map_nil]; rfl) ?_
        with_reducible refine (maskref4_Reaches.calls k5 a0_0 _ _ l0_1 _ _ l0_2 (rd l0_2 i) _ _ l1 _ _ l2 _ _ _ (Kd.C_below H01.out (below_step HB4.out HD.out)) M.out.1 (Kd.C_below H02.out (below_step HB4.out HD.out)) M.out.2.1 (Kd.C_below H1.out (below_step HB4.out HD.out)) M.out.2.2.1 (Kd.C_below H2.out (below_step HB4.out HD.out)) M.out.2.2.2 HX.out).mono ?_
        rintro e w5 ⟨rfl, hb5⟩
        refine ⟨_, rfl, ?_⟩
        refine hK.out _ _ ⟨(hb5.cell (World.block_lt_of_cell? _ _ r0)).trans r0, (hb5.cell (World.block_lt_of_cell? _ _ r1)).trans r1, (hb5.cell (World.block_lt_of_cell? _ _ q0)).trans q0, (hb5.cell (World.block_lt_of_cell? _ _ q1)).trans q1, (hb5.cell (World.block_lt_of_cell? _ _ q2)).trans q2, (hb5.cell (World.block_lt_of_cell? _ _ q3)).trans q3⟩ (fun hHeld => ?_)
        clear hK K
        refine norm_ (a' := ?_) ?_ ?_
        rotate_left
        · show Act.put _ (some 69) _ = _
          simp only [Act.put, List.setIfInBounds_toArray, List.set_cons_zero, List.set_cons_succ, i64_w, i32_w]
          rfl
        refine pure_ (i := 9) (N := some 70) (v := ?_) (a' := ?_) #[true, true, true, true, true, true, true, true, true, true] rfl rfl (by kernel_rfl) (fun _ _ _ h => h) (Or.inl ⟨by rfl, ?_⟩) ?_ ?_
        rotate_left
        · intro w'
          go_simp
          with_reducible rfl
        rotate_left
        · simp only [Act.put, List.setIfInBounds_toArray, List.set_cons_zero, List.set_cons_succ, i64_w, i32_w]
          rfl
        refine done_ (by kernel_rfl) ?_
        have HB5 := Aside0.mk (below_step HD.out hb5)
        clear hb5 hHeld r0 r1 q0 q1 q2 q3 HX HD
        go_wp2
        go_roundw
        case rel => exact ⟨i + 1, by omega, by omega, by go_num, HB5⟩
        case measure => simp [intOf]; omega
      · have e1 : decide (i < (l0_2.length : Int)) = false := decide_eq_false hlt
        clear hlt
        go_wp2_with fail
        go_loopw [12] (fun v12 wr => ∃ b : Int, -1 ≤ b ∧ b ≤ l0_1.length ∧ v12 = .int .i64 b ∧ Aside0 (Below w4.heap.size w4 wr)) (fun v12 _ => ((l0_1.length : Int) - intOf v12).toNat)
        case atStart => exact ⟨-1, by omega, by omega, rfl, HW⟩
        case round =>
          clear HW
          obtain ⟨b, g0, g1, rfl, HW⟩ := hrel
          have q1' : wr.cell? ⟨w.heap.size, 1, none⟩ = some (.slice A0_1 l0_1.length c0_1) := (blk_cell (blk_below BT4.out HW.out) 1).trans rfl
          by_cases hlb : b < (l0_1.length : Int)
          · have e2 : decide (b < (l0_1.length : Int)) = true := decide_eq_true hlb
            obtain ⟨nl, ⟨k5, hk5⟩, ⟨k6, hk6⟩⟩ := HLD.out b
            have HX := Aside0.mk (hk5 k5 (Nat.le_refl _))
            have HY := Aside0.mk (hk6 k6 (Nat.le_refl _))
            clear hk5 hk6
            have HD := Aside0.mk (below_drew1 HW.out)
            have q0 : wr.drew.cell? ⟨w.heap.size, 0, none⟩ = some (.int .i64 a0_0) := (blk_cell (blk_below BT4.out HD.out) 0).trans rfl
            have q1 : wr.drew.cell? ⟨w.heap.size, 1, none⟩ = some (.slice A0_1 l0_1.length c0_1) := (blk_cell (blk_below BT4.out HD.out) 1).trans rfl
            have q2 : wr.drew.cell? ⟨w.heap.size, 2, none⟩ = some (.slice A0_2 l0_2.length c0_2) := (blk_cell (blk_below BT4.out HD.out) 2).trans rfl
            have q3 : wr.drew.cell? ⟨w.heap.size + 1, 0, none⟩ = some (.slice A1 l1.length c1) := (blk_cell (blk_below BL4.out HD.out) 0).trans rfl
            clear HW
            go_wp2_with fail
            clear q1'
            refine start_ (n := 11) (S := fun w' => w'.cell? ⟨w.heap.size, 0, none⟩ = some (.int .i64 a0_0) ∧ w'.cell? ⟨w.heap.size, 1, none⟩ = some (.slice A0_1 l0_1.length c0_1) ∧ w'.cell? ⟨w.heap.size, 2, none⟩ = some (.slice A0_2 l0_2.length c0_2) ∧ w'.cell? ⟨w.heap.size + 1, 0, none⟩ = some (.slice A1 l1.length c1)) (ds := []) #[false, false, false, false, false, false, false, false, false, false, false] (by kernel_rfl) rfl rfl ⟨q0, q1, q2, q3⟩ (fun hHeld => ?_)
            refine pure_ (i := 1) (N := some 80) (v := ?_) (a' := ?_) #[false, true, false, false, false, false, false, false, false, false, false] rfl rfl (by kernel_rfl) (fun _ _ _ h => h) (Or.inl ⟨by rfl, ?_⟩) ?_ ?_
            rotate_left
            · intro w'
              go_simp
              with_reducible rfl
            rotate_left
            · simp only [Act.put, List.setIfInBounds_toArray, List.set_cons_zero, List.set_cons_succ, i64_w, i32_w]
              rfl
            refine pure_ (i := 3) (N := some 82) (v := ?_) (a' := ?_) #[false, true, false, true, false, false, false, false, false, false, false] rfl rfl (by kernel_rfl) (fun _ _ _ h => h) (Or.inl ⟨by rfl, ?_⟩) ?_ ?_
            rotate_left
            · intro w'
              go_simp
              with_reducible rfl
            rotate_left
            · simp only [Act.put, List.setIfInBounds_toArray, List.set_cons_zero, List.set_cons_succ, i64_w, i32_w]
              rfl
            refine pure_ (i := 6) (N := some 85) (v := ?_) (a' := ?_) #[false, true, false, true, false, false, true, false, false, false, false] rfl rfl (by kernel_rfl) (fun _ _ _ h => h) (Or.inl ⟨by rfl, ?_⟩) ?_ ?_
            rotate_left
            · intro w'
              go_simp
              with_reducible rfl
            rotate_left
            · simp only [Act.put, List.setIfInBounds_toArray, List.set_cons_zero, List.set_cons_succ, i64_w, i32_w]
              rfl
            refine pure_ (i := 8) (N := some 87) (v := ?_) (a' := ?_) #[false, true, false, true, false, false, true, false, true, false, false] rfl rfl (by kernel_rfl) (fun _ _ _ h => h) (Or.inl ⟨by rfl, ?_⟩) ?_ ?_
            rotate_left
            · intro w'
              go_simp
              with_reducible rfl
            rotate_left
            · simp only [Act.put, List.setIfInBounds_toArray, List.set_cons_zero, List.set_cons_succ, i64_w, i32_w]
              rfl
            refine take_ (i := 0) (N := some 79) (v := ?_) (a' := ?_) #[true, true, false, true, false, false, true, false, true, false, false] rfl rfl (by kernel_rfl) (fun _ _ _ h => h) (Or.inl ⟨by rfl, ?_⟩) hHeld ?_ ?_
            rotate_left
            · rintro w' ⟨s0, s1, s2, s3⟩
              go_simp
              with_reducible rfl
            rotate_left
            · simp only [Act.put, List.setIfInBounds_toArray, List.set_cons_zero, List.set_cons_succ, i64_w, i32_w]
              rfl
            refine take_ (i := 2) (N := some 81) (v := ?_) (a' := ?_) #[true, true, true, true, false, false, true, false, true, false, false] rfl rfl (by kernel_rfl) (fun _ _ _ h => h) (Or.inl ⟨by rfl, ?_⟩) hHeld ?_ ?_
            rotate_left
            · rintro w' ⟨s0, s1, s2, s3⟩
              go_simp
              with_reducible rfl
            rotate_left
            · simp only [Act.put, List.setIfInBounds_toArray, List.set_cons_zero, List.set_cons_succ, i64_w, i32_w]
              rfl
            refine take_ (i := 5) (N := some 84) (v := ?_) (a' := ?_) #[true, true, true, true, false, true, true, false, true, false, false] rfl rfl (by kernel_rfl) (fun _ _ _ h => h) (Or.inl ⟨by rfl, ?_⟩) hHeld ?_ ?_
            rotate_left
            · rintro w' ⟨s0, s1, s2, s3⟩
              go_simp
              with_reducible rfl
            rotate_left
            · simp only [Act.put, List.setIfInBounds_toArray, List.set_cons_zero, List.set_cons_succ, i64_w, i32_w]
              rfl
            refine take_ (i := 7) (N := some 86) (v := ?_) (a' := ?_) #[true, true, true, true, false, true, true, true, true, false, false] rfl rfl (by kernel_rfl) (fun _ _ _ h => h) (Or.inl ⟨by rfl, ?_⟩) hHeld ?_ ?_
            rotate_left
            · rintro w' ⟨s0, s1, s2, s3⟩
              go_simp
              with_reducible rfl
            rotate_left
            · simp only [Act.put, List.setIfInBounds_toArray, List.set_cons_zero, List.set_cons_succ, i64_w, i32_w]
              rfl
            refine one_ (i := 4) (N := some 83) #[true, true, true, true, true, true, true, true, true, false, false] rfl rfl (by kernel_rfl) (by decide) (fun K hK => ?_)
            refine goes_ Try.func21 (by kernel_rfl) rfl #[.agg #[.int .i64 a0_0, .slice A0_1 l0_1.length c0_1, .slice A0_2 l0_2.length c0_2], .int .i64 b, .slice A1 l1.length c1, .slice A2 l2.length c2] (by rfl) rfl rfl (by simp only [List.map_toArray, List.map_cons, List.map_nil]; rfl) ?_
            with_reducible refine (tree_Load.calls k5 a0_0 _ _ l0_1 _ _ l0_2 b _ _ l1 _ _ l2 nl _ (Kd.C_below H01.out (below_step HB4.out HD.out)) M.out.1 (Kd.C_below H02.out (below_step HB4.out HD.out)) M.out.2.1 (Kd.C_below H1.out (below_step HB4.out HD.out)) M.out.2.2.1 (Kd.C_below H2.out (below_step HB4.out HD.out)) M.out.2.2.2 HX.out).mono ?_
            rintro e w5 ⟨rfl, hb5⟩
            refine ⟨_, rfl, ?_⟩
            have HD5 := Aside0.mk (below_step HD.out hb5)
            replace q0 := (hb5.cell (World.block_lt_of_cell? _ _ q0)).trans q0
            replace q1 := (hb5.cell (World.block_lt_of_cell? _ _ q1)).trans q1
            replace q2 := (hb5.cell (World.block_lt_of_cell? _ _ q2)).trans q2
            replace q3 := (hb5.cell (World.block_lt_of_cell? _ _ q3)).trans q3
            refine hK.out _ _ ⟨q0, q1, q2, q3⟩ (fun hHeld => ?_)
            clear hK K
            refine norm_ (a' := ?_) ?_ ?_
            rotate_left
            · show Act.put _ (some 83) _ = _
              simp only [Act.put, List.setIfInBounds_toArray, List.set_cons_zero, List.set_cons_succ, i64_w, i32_w]
              rfl
            refine one_ (i := 9) (N := some 88) #[true, true, true, true, true, true, true, true, true, true, false] rfl rfl (by kernel_rfl) (by decide) (fun K hK => ?_)
            refine goes_ Try.func22 (by kernel_rfl) rfl #[.agg #[.int .i64 a0_0, .slice A0_1 l0_1.length c0_1, .slice A0_2 l0_2.length c0_2], .int .i64 b, .slice A1 l1.length c1, .slice A2 l2.length c2] (by rfl) rfl rfl (by simp only [List.map_toArray, List.map_cons, List.map_nil]; rfl) ?_
            with_reducible refine (maskref4_LoadOf.calls k6 a0_0 _ _ l0_1 _ _ l0_2 b _ _ l1 _ _ l2 nl _ (Kd.C_below H01.out (below_step HB4.out HD5.out)) M.out.1 (Kd.C_below H02.out (below_step HB4.out HD5.out)) M.out.2.1 (Kd.C_below H1.out (below_step HB4.out HD5.out)) M.out.2.2.1 (Kd.C_below H2.out (below_step HB4.out HD5.out)) M.out.2.2.2 HY.out).mono ?_
            rintro e w6 ⟨rfl, hb6⟩
            refine ⟨_, rfl, ?_⟩
            have HD6 := Aside0.mk (below_step HD5.out hb6)
            replace q0 := (hb6.cell (World.block_lt_of_cell? _ _ q0)).trans q0
            replace q1 := (hb6.cell (World.block_lt_of_cell? _ _ q1)).trans q1
            replace q2 := (hb6.cell (World.block_lt_of_cell? _ _ q2)).trans q2
            replace q3 := (hb6.cell (World.block_lt_of_cell? _ _ q3)).trans q3
            refine hK.out _ _ ⟨q0, q1, q2, q3⟩ (fun hHeld => ?_)
            clear hK K
            refine norm_ (a' := ?_) ?_ ?_
            rotate_left
            · show Act.put _ (some 88) _ = _
              simp only [Act.put, List.setIfInBounds_toArray, List.set_cons_zero, List.set_cons_succ, i64_w, i32_w]
              rfl
            refine pure_ (i := 10) (N := some 89) (v := ?_) (a' := ?_) #[true, true, true, true, true, true, true, true, true, true, true] rfl rfl (by kernel_rfl) (fun _ _ _ h => h) (Or.inl ⟨by rfl, ?_⟩) ?_ ?_
            rotate_left
            · intro w'
              go_simp
              with_reducible rfl
            rotate_left
            · simp only [Act.put, List.setIfInBounds_toArray, List.set_cons_zero, List.set_cons_succ, i64_w, i32_w]
              rfl
            refine done_ (by kernel_rfl) ?_
            clear hb5 hb6 hHeld q0 q1 q2 q3 HX HY HD HD5
            go_wp2
            go_roundw
            case rel => exact ⟨b + 1, by omega, by omega, by go_num, HD6⟩
            case measure => simp [intOf]; omega
          · have e2 : decide (b < (l0_1.length : Int)) = false := decide_eq_false hlb
            have HE := Aside0.mk (below_step HB4.out HW.out)
            clear hlb
            go_wp2
            go_ret
            exact ⟨rfl, HE.out⟩
end Go.Proofs.Ytagpbgabcenodaa.PB
