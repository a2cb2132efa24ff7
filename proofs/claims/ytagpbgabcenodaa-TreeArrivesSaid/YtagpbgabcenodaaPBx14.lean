-- PRINTED by print.py (a twelfth state) out of the translation. Not trusted: Lean checks it.
import Derived.Test.YtagpbgabcenodaaPBx0
import Derived.Test.YtagpbgabcenodaaPBx11
namespace Go.Proofs.Ytagpbgabcenodaa.PB
open Go.RowKit Go.Proofs.YtagpbgabcenodaaW.PrintWords Go.Proofs.YtagpbgabcenodaaW.PrintLast Go.Proofs.YtagpbgabcenodaaW.PrintMore
attribute [local go_sem] max2_int min2_int max_two min_two max_three min_three max_four min_four   -- for this text's walks alone
set_option linter.unusedVariables false
set_option linter.unusedSimpArgs false

-- the contract of function 34 (maskwright/lib.Check): written by hand
/-! ### lib_Check: function 34 -/
def lib_Check.nmq (nm : ByteArray) (d : S32) : Bool := d.f0.toList == nm.toList
def lib_Check.tw (l : List (S32)) (i : Int) : Bool := (l.take i.toNat).any (lib_Check.nmq (rd_T32 l i).f0)
def lib_Check.l0 : Nat → List (S32) → Int → Option Int
  | 0, _, _ => none
  | k + 1, l, i => if i < (l.length : Int) then ((lib_CheckCell.f k (rd_T32 l i).f0 (rd_T32 l i).f1 (rd_T32 l i).f2 (rd_T32 l i).f3 (rd_T32 l i).f4 (rd_T32 l i).f5 (rd_T32 l i).f6 (rd_T32 l i).f7 (rd_T32 l i).f8 (rd_T32 l i).f9 (rd_T32 l i).f10).bind fun e => if e = 0 then (if lib_Check.tw l i = true then some 6 else lib_Check.l0 k l (i + 1)) else some e) else some 0
def lib_Check.f (k : Nat) (l0 : List (S32)) : Option Int := if (l0.length : Int) > 64 then some 3 else lib_Check.l0 k l0 0
theorem lib_Check.mono_l : ∀ k l i, LeO (lib_Check.l0 k l i) (lib_Check.l0 (k + 1) l i)
  | 0, _, _ => fun r h => by simp [lib_Check.l0] at h
  | k + 1, l, i => by
    unfold lib_Check.l0
    repeat' first
      | (with_reducible exact lib_Check.mono_l k _ _)
      | (with_reducible exact lib_CheckCell.mono _ _ _ _ _ _ _ _ _ _ _ _)
      | (with_reducible exact LeO.refl _)
      | (with_reducible refine LeO.ite ?_ ?_)
      | (with_reducible refine LeO.bind ?_ (fun _ => ?_))
theorem lib_Check.mono : ∀ l k, LeO (lib_Check.f k l) (lib_Check.f (k + 1) l) := by
  intro l k
  unfold lib_Check.f
  repeat' first
    | (with_reducible exact lib_Check.mono_l k _ _)
    | (with_reducible exact LeO.refl _)
    | (with_reducible refine LeO.ite ?_ ?_)
abbrev CkCell := S32
set_option maxHeartbeats 1000000 in
set_option maxRecDepth 100000 in
theorem lib_Check.clo (x : CkCell) (A5 A6 A7 : Option Addr) (c5 c6 c7 : Nat) (g : Nat) (nm : ByteArray) (w : World) (hg : w.cell? ⟨g, 0, none⟩ = some (.string nm)) (hl : g < w.heap.size) :
    Calls Try.prog 45 #[.agg #[.string x.f0, .bool x.f1, .int .i64 x.f2, .int .u64 x.f3, .int .i64 x.f4, .slice A5 x.f5.length c5, .slice A6 x.f6.length c6, .slice A7 x.f7.length c7, .int .i64 x.f8, .int .i64 x.f9, .int .i64 x.f10], .pointer (some ⟨g, 0, none⟩)] w fun e w' => e = .returned (.bool (lib_Check.nmq nm x)) ∧ Below w.heap.size w w' := by
  have HB := Aside0.mk (below_alloc (Below.refl w.heap.size w) (.cells #[.string x.f0, .bool x.f1, .int .i64 x.f2, .int .u64 x.f3, .int .i64 x.f4, .slice A5 x.f5.length c5, .slice A6 x.f6.length c6, .slice A7 x.f7.length c7, .int .i64 x.f8, .int .i64 x.f9, .int .i64 x.f10] 32))
  go_enter Try.func45, Try.ntmps45
  go_wp2
  go_ret
  exact ⟨rfl, HB.out⟩
set_option maxHeartbeats 1000000 in
set_option maxRecDepth 100000 in
theorem lib_Check.idx (A0 : Option Addr) (c0 : Nat) (l : List CkCell) (g : Nat) (nm : ByteArray) (w : World) (hr : Kd.C k32 w A0 l.length l) (hg : w.cell? ⟨g, 0, none⟩ = some (.string nm)) (hl : g < w.heap.size) :
    Calls Try.prog 54 #[.slice A0 l.length c0, .func (.func 45) #[] #[.pointer (some ⟨g, 0, none⟩)]] w fun e w' => (∃ i : Int, e = .returned (.int .i64 i) ∧ decide (0 ≤ i) = l.any (lib_Check.nmq nm)) ∧ Below w.heap.size w w' := by
  have h63 : l.length ≤ 9223372036854775807 := hr.2.1
  have HR := Aside0.mk hr
  have HG := Aside0.mk hg
  clear hr hg
  go_enter Try.func54, Try.ntmps54
  go_wp2
  go_loopw [8] (fun v wr => ∃ i : Int, 0 ≤ i ∧ i ≤ l.length ∧ v = .int .i64 i ∧ Aside0 (Below w.heap.size w wr) ∧ Aside0 (l.any (lib_Check.nmq nm) = (l.drop i.toNat).any (lib_Check.nmq nm))) (fun v _ => (l.length - (intOf v).toNat))
  case atStart => exact ⟨0, by omega, by omega, rfl, ⟨Below.refl _ _⟩, ⟨by simp⟩⟩
  case round =>
    obtain ⟨i, h0, h1, rfl, hb, ha⟩ := hrel
    by_cases hlt : i < l.length
    · obtain ⟨ad, A5, c5, A6, c6, A7, c7, rfl, d0, d1, d2, d3, d4, d5, d6, d7, d8, d9, d10, dr⟩ := at_T32 (Kd.C_below HR.out hb.out) i h0 hlt
      clear dr
      have HG1 := Aside0.mk ((hb.out.cell (p := ⟨g, 0, none⟩) hl).trans HG.out)
      have HL1 := Aside0.mk (show g < wr.heap.size from Nat.lt_of_lt_of_le hl hb.out.size)
      go_wp2_with fail
      refine (lib_Check.clo (rd_T32 l i) A5 A6 A7 c5 c6 c7 g nm _ HG1.out HL1.out).mono ?_
      rintro e w1 ⟨rfl, hw1⟩
      clear d0 d1 d2 d3 d4 d5 d6 d7 d8 d9 d10
      have hb1 := Aside0.mk (below_step hb.out hw1)
      clear hw1 hb HG1 HL1
      have hdrop : l.drop i.toNat = rd_T32 l i :: l.drop (i.toNat + 1) := by
        unfold rd_T32
        have hn : i.toNat < l.length := by omega
        rw [List.getD_eq_getElem?_getD, List.getElem?_eq_getElem hn]
        exact List.drop_eq_getElem_cons hn
      have hany : l.any (lib_Check.nmq nm) = (lib_Check.nmq nm (rd_T32 l i) || (l.drop (i.toNat + 1)).any (lib_Check.nmq nm)) := by rw [ha.out, hdrop, List.any_cons]
      clear hdrop ha
      cases hbv : lib_Check.nmq nm (rd_T32 l i) with
      | true =>
        have hA := Aside0.mk (show l.any (lib_Check.nmq nm) = true by rw [hany, hbv]; rfl)
        clear hany hbv
        go_wp2
        go_ret
        exact ⟨⟨i, rfl, by rw [hA.out]; exact decide_eq_true h0⟩, hb1.out⟩
      | false =>
        have hA := Aside0.mk (show l.any (lib_Check.nmq nm) = (l.drop (i + 1).toNat).any (lib_Check.nmq nm) by rw [hany, hbv, Bool.false_or, show (i + 1).toNat = i.toNat + 1 by omega])
        clear hany hbv
        go_wp2
        go_roundw
        case rel => exact ⟨i + 1, by omega, by omega, by go_num, hb1, hA⟩
        case measure => simp [intOf]; omega
    · have hend : i.toNat = l.length := by omega
      have hA := Aside0.mk (show l.any (lib_Check.nmq nm) = false by rw [ha.out, hend, List.drop_length]; rfl)
      clear ha hend
      go_wp2
      go_ret
      exact ⟨⟨-1, rfl, by rw [hA.out]; rfl⟩, hb.out⟩
set_option maxHeartbeats 1000000 in
set_option maxRecDepth 100000 in
theorem lib_Check.has (A0 : Option Addr) (c0 : Nat) (l : List CkCell) (g : Nat) (nm : ByteArray) (w : World) (hr : Kd.C k32 w A0 l.length l) (hg : w.cell? ⟨g, 0, none⟩ = some (.string nm)) (hl : g < w.heap.size) :
    Calls Try.prog 44 #[.slice A0 l.length c0, .func (.func 45) #[] #[.pointer (some ⟨g, 0, none⟩)]] w fun e w' => e = .returned (.bool (l.any (lib_Check.nmq nm))) ∧ Below w.heap.size w w' := by
  go_enter Try.func44, Try.ntmps44
  go_wp2_with fail
  refine (lib_Check.idx A0 c0 l g nm w hr hg hl).mono ?_
  rintro e w1 ⟨⟨i, rfl, hi⟩, hb⟩
  have H := Aside0.mk hi
  clear hi
  go_wp2
  go_ret
  exact ⟨by first | (rw [H.out]; rfl) | (rw [← H.out]; rfl), hb⟩
set_option maxHeartbeats 4000000 in
set_option maxRecDepth 100000 in
theorem lib_Check.calls (k : Nat) (A0 : Option Addr) (c0 : Nat) (l0 : List (S32)) (r : Int) (w : World) (hr0 : Kd.C k32 w A0 l0.length l0) (hc0 : l0.length ≤ c0) (h : lib_Check.f k l0 = some r) :
    Calls Try.prog 34 #[.slice A0 l0.length c0] w fun e w' => e = .returned (.int .i64 r) ∧ Below w.heap.size w w' := by
  have h63 : l0.length ≤ 9223372036854775807 := hr0.2.1
  have hmf : ∀ (fn : Fn) (first cap : Array Value) (w : World), (Instr.makeFunc fn first cap).run Try.prog w = .ok (.func fn first cap) w := fun _ _ _ _ => rfl
  have HR := Aside0.mk hr0
  have HM := Aside0.mk hc0
  have HB0 := Aside0.mk (Below.refl w.heap.size w)
  clear hr0 hc0
  by_cases hbig : 64 < l0.length
  · have d : decide (64 < (l0.length : Int)) = true := decide_eq_true (by omega)
    unfold lib_Check.f at h
    rw [if_pos (by omega)] at h
    obtain rfl := Option.some.inj h
    clear h
    go_enter Try.func34, Try.ntmps34
    go_wp2
    go_ret
    exact ⟨rfl, HB0.out⟩
  have d : decide (64 < (l0.length : Int)) = false := decide_eq_false (by omega)
  unfold lib_Check.f at h
  rw [if_neg (by omega)] at h
  have HH := Aside0.mk h
  clear h
  go_enter Try.func34, Try.ntmps34
  go_wp2
  go_loopw [11] (fun v wr => ∃ (i : Int) (kq : Nat), 0 ≤ i ∧ i ≤ l0.length ∧ v = .int .i64 i ∧ Aside0 (lib_Check.l0 kq l0 i = some r) ∧ Aside0 (Below w.heap.size w wr)) (fun v _ => (l0.length - (intOf v).toNat))
  case atStart => exact ⟨0, k, by omega, by omega, rfl, HH, HB0⟩
  case round =>
    clear HH HB0
    obtain ⟨i, kq, h0, h1, rfl, HA, HB⟩ := hrel
    cases kq with
    | zero => exact absurd HA.out (by simp [lib_Check.l0])
    | succ k1 =>
      have H := HA.out
      clear HA
      simp only [lib_Check.l0] at H
      by_cases hlt : i < (l0.length : Int)
      · rw [if_pos hlt] at H
        obtain ⟨e, HE, H⟩ := Option.bind_eq_some_iff.mp H
        have HE' := Aside0.mk HE
        have HH := Aside0.mk H
        clear HE H
        obtain ⟨ad, A5, c5, A6, c6, A7, c7, rfl, d0, d1, d2, d3, d4, d5, d6, d7, d8, d9, d10, dr⟩ := at_T32 (Kd.C_below HR.out HB.out) i h0 hlt
        have DR := Aside0.mk dr
        clear dr
        have e1 : decide (i < (l0.length : Int)) = true := decide_eq_true hlt
        have HB1 := Aside0.mk (below_alloc HB.out (.cells #[.string (rd_T32 l0 i).f0, .bool (rd_T32 l0 i).f1, .int .i64 (rd_T32 l0 i).f2, .int .u64 (rd_T32 l0 i).f3, .int .i64 (rd_T32 l0 i).f4, .slice A5 (rd_T32 l0 i).f5.length c5, .slice A6 (rd_T32 l0 i).f6.length c6, .slice A7 (rd_T32 l0 i).f7.length c7, .int .i64 (rd_T32 l0 i).f8, .int .i64 (rd_T32 l0 i).f9, .int .i64 (rd_T32 l0 i).f10] 32))
        have BK := Aside0.mk (blk_new wr (.cells #[.string (rd_T32 l0 i).f0, .bool (rd_T32 l0 i).f1, .int .i64 (rd_T32 l0 i).f2, .int .u64 (rd_T32 l0 i).f3, .int .i64 (rd_T32 l0 i).f4, .slice A5 (rd_T32 l0 i).f5.length c5, .slice A6 (rd_T32 l0 i).f6.length c6, .slice A7 (rd_T32 l0 i).f7.length c7, .int .i64 (rd_T32 l0 i).f8, .int .i64 (rd_T32 l0 i).f9, .int .i64 (rd_T32 l0 i).f10] 32))
        go_wp2_with fail
        refine (lib_CheckCell.calls k1 _ _ _ _ _ A5 c5 _ A6 c6 _ A7 c7 _ _ _ _ e _ (Kd.C_alloc DR.out.2.1 _) DR.out.1 (Kd.C_alloc DR.out.2.2.2.1 _) DR.out.2.2.1 (Kd.C_alloc DR.out.2.2.2.2.2 _) DR.out.2.2.2.2.1 HE'.out).mono ?_
        rintro ev w2 ⟨rfl, hw2⟩
        clear d0 d1 d2 d3 d4 d5 d6 d7 d8 d9 d10
        have HG := Aside0.mk ((blk_cell (blk_below BK.out hw2) 0).trans rfl)
        have HL := Aside0.mk (blk_lt (blk_below BK.out hw2))
        have HB2 := Aside0.mk (below_step HB1.out hw2)
        clear hw2 BK DR HB HB1 HE'
        by_cases he : e = 0
        · subst he
          have HH' := Aside0.mk ((if_pos rfl).symm.trans HH.out)
          clear HH
          have e2 : (0 ≤ i) = True := eq_true h0
          have e3 : (i ≤ (c0 : Int)) = True := eq_true (by have := HM.out; omega)
          have hln : (l0.take i.toNat).length = i.toNat := by rw [List.length_take]; omega
          have CC : Calls Try.prog 44 #[.slice (some ad) (l0.take i.toNat).length c0, .func (.func 45) #[] #[.pointer (some ⟨wr.heap.size, 0, none⟩)]] w2 fun e w' => e = .returned (.bool (lib_Check.tw l0 i)) ∧ Below w2.heap.size w2 w' :=
            lib_Check.has (some ad) c0 (l0.take i.toNat) wr.heap.size (rd_T32 l0 i).f0 w2 (Kd.C_take (Kd.C_below HR.out HB2.out) (by omega)) HG.out HL.out
          rw [hln] at CC
          have HCC := Aside0.mk CC
          clear CC hln
          go_wp2_with fail
          refine HCC.out.mono ?_
          rintro ev w3 ⟨rfl, hw3⟩
          have HB3 := Aside0.mk (below_step HB2.out hw3)
          clear hw3 HCC HB2 HG HL
          cases htw : lib_Check.tw l0 i with
          | true =>
            have HF := Aside0.mk (Option.some.inj ((if_pos htw).symm.trans HH'.out))
            clear htw HH'
            go_wp2
            go_ret
            exact ⟨by rw [← HF.out]; rfl, HB3.out⟩
          | false =>
            have HF := Aside0.mk ((if_neg (by rw [htw]; simp)).symm.trans HH'.out)
            clear htw HH'
            go_wp2
            go_roundw
            case rel => exact ⟨i + 1, k1, by omega, by omega, by go_num, HF, HB3⟩
            case measure => simp [intOf]; omega
        · have HF := Aside0.mk (Option.some.inj ((if_neg he).symm.trans HH.out))
          have f1 : (e == 0) = false := beq_eq_false_iff_ne.mpr he
          have f2 : (e != 0) = true := bne_iff_ne.mpr he
          clear he HH
          go_wp2
          go_ret
          exact ⟨by rw [HF.out]; rfl, HB2.out⟩
      · rw [if_neg hlt] at H
        have HF := Aside0.mk (Option.some.inj H)
        have e1 : decide (i < (l0.length : Int)) = false := decide_eq_false hlt
        clear hlt H
        go_wp2
        go_ret
        exact ⟨by rw [← HF.out]; rfl, HB.out⟩

end Go.Proofs.Ytagpbgabcenodaa.PB
