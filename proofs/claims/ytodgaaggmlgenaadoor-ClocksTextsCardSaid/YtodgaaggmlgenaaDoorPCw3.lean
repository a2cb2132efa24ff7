/- What the two closures of clocks.Check find, and slices.ContainsFunc over them. -/
import Derived.Test.YtodgaaggmlgenaaDoorPCw2
set_option linter.unusedSectionVars false
namespace Go.Proofs.YtodgaaggmlgenaaDoor.PC
open Go.Sort Go.RowKit Go.Proofs.YtodgaaggmlgenaaDoorW.PrintWords Go.Proofs.YtodgaaggmlgenaaDoorW.PrintLast Go.Proofs.YtodgaaggmlgenaaDoorW.PrintMore
set_option linter.unusedVariables false
set_option linter.unusedSimpArgs false
abbrev In51 := S51
def nmq51 (nm : ByteArray) (d : S51) : Bool := d.f0.toList == nm.toList
set_option maxHeartbeats 1000000 in
set_option maxRecDepth 100000 in
theorem clo51 (x : S51) (g : Nat) (nm : ByteArray) (w : World) (hg : w.cell? ⟨g, 0, none⟩ = some (.string nm)) (hl : g < w.heap.size) :
    Calls Tryd.prog 29 #[.agg #[.string x.f0, .int .i64 x.f1.f0, .int .i64 x.f1.f1], .pointer (some ⟨g, 0, none⟩)] w fun e w' => e = .returned (.bool (nmq51 nm x)) ∧ Below w.heap.size w w' := by
  have HB := Aside0.mk (below_alloc (Below.refl w.heap.size w) (.cells #[.string x.f0, .int .i64 x.f1.f0, .int .i64 x.f1.f1] 51))
  go_enter Tryd.func29, Tryd.ntmps29
  go_wp2
  go_ret
  exact ⟨rfl, HB.out⟩
set_option maxHeartbeats 1000000 in
set_option maxRecDepth 100000 in
theorem idx51 (A0 : Option Addr) (c0 : Nat) (l : List S51) (g : Nat) (nm : ByteArray) (w : World) (hr : Kd.C k51 w A0 l.length l) (hg : w.cell? ⟨g, 0, none⟩ = some (.string nm)) (hl : g < w.heap.size) :
    Calls Tryd.prog 40 #[.slice A0 l.length c0, .func (.func 29) #[] #[.pointer (some ⟨g, 0, none⟩)]] w fun e w' => (∃ i : Int, e = .returned (.int .i64 i) ∧ decide (0 ≤ i) = l.any (nmq51 nm)) ∧ Below w.heap.size w w' := by
  have h63 : l.length ≤ 9223372036854775807 := hr.2.1
  have HR := Aside0.mk hr
  have HG := Aside0.mk hg
  clear hr hg
  go_enter Tryd.func40, Tryd.ntmps40
  go_wp2
  go_loopw [8] (fun v wr => ∃ i : Int, 0 ≤ i ∧ i ≤ l.length ∧ v = .int .i64 i ∧ Aside0 (Below w.heap.size w wr) ∧ Aside0 (l.any (nmq51 nm) = (l.drop i.toNat).any (nmq51 nm))) (fun v _ => (l.length - (intOf v).toNat))
  case atStart => exact ⟨0, by omega, by omega, rfl, ⟨Below.refl _ _⟩, ⟨by simp⟩⟩
  case round =>
    obtain ⟨i, h0, h1, rfl, hb, ha⟩ := hrel
    by_cases hlt : i < l.length
    · obtain ⟨ad, rfl, d0, d1, d2⟩ := at_T51 (Kd.C_below HR.out hb.out) i h0 hlt
      have HG1 := Aside0.mk ((hb.out.cell (p := ⟨g, 0, none⟩) hl).trans HG.out)
      have HL1 := Aside0.mk (show g < wr.heap.size from Nat.lt_of_lt_of_le hl hb.out.size)
      go_wp2_with fail
      refine (clo51 (rd_T51 l i) g nm _ HG1.out HL1.out).mono ?_
      rintro e w1 ⟨rfl, hw1⟩
      clear d0 d1 d2
      have hb1 := Aside0.mk (below_step hb.out hw1)
      clear hw1 hb HG1 HL1
      have hdrop : l.drop i.toNat = rd_T51 l i :: l.drop (i.toNat + 1) := by
        unfold rd_T51
        have hn : i.toNat < l.length := by omega
        rw [List.getD_eq_getElem?_getD, List.getElem?_eq_getElem hn]
        exact List.drop_eq_getElem_cons hn
      have hany : l.any (nmq51 nm) = (nmq51 nm (rd_T51 l i) || (l.drop (i.toNat + 1)).any (nmq51 nm)) := by rw [ha.out, hdrop, List.any_cons]
      clear hdrop ha
      cases hbv : nmq51 nm (rd_T51 l i) with
      | true =>
        have hA := Aside0.mk (show l.any (nmq51 nm) = true by rw [hany, hbv]; rfl)
        clear hany hbv
        go_wp2
        go_ret
        exact ⟨⟨i, rfl, by rw [hA.out]; exact decide_eq_true h0⟩, hb1.out⟩
      | false =>
        have hA := Aside0.mk (show l.any (nmq51 nm) = (l.drop (i + 1).toNat).any (nmq51 nm) by rw [hany, hbv, Bool.false_or, show (i + 1).toNat = i.toNat + 1 by omega])
        clear hany hbv
        go_wp2
        go_roundw
        case rel => exact ⟨i + 1, by omega, by omega, by go_num, hb1, hA⟩
        case measure => simp [intOf]; omega
    · have hend : i.toNat = l.length := by omega
      have hA := Aside0.mk (show l.any (nmq51 nm) = false by rw [ha.out, hend, List.drop_length]; rfl)
      clear ha hend
      go_wp2
      go_ret
      exact ⟨⟨-1, rfl, by rw [hA.out]; rfl⟩, hb.out⟩
set_option maxHeartbeats 1000000 in
set_option maxRecDepth 100000 in
theorem has51 (A0 : Option Addr) (c0 : Nat) (l : List S51) (g : Nat) (nm : ByteArray) (w : World) (hr : Kd.C k51 w A0 l.length l) (hg : w.cell? ⟨g, 0, none⟩ = some (.string nm)) (hl : g < w.heap.size) :
    Calls Tryd.prog 28 #[.slice A0 l.length c0, .func (.func 29) #[] #[.pointer (some ⟨g, 0, none⟩)]] w fun e w' => e = .returned (.bool (l.any (nmq51 nm))) ∧ Below w.heap.size w w' := by
  go_enter Tryd.func28, Tryd.ntmps28
  go_wp2_with fail
  refine (idx51 A0 c0 l g nm w hr hg hl).mono ?_
  rintro e w1 ⟨⟨i, rfl, hi⟩, hb⟩
  have H := Aside0.mk hi
  clear hi
  go_wp2
  go_ret
  exact ⟨by first | (rw [H.out]; rfl) | (rw [← H.out]; rfl), hb⟩
abbrev In53 := S53
def nmq53 (nm : ByteArray) (d : S53) : Bool := d.f0.toList == nm.toList
set_option maxHeartbeats 1000000 in
set_option maxRecDepth 100000 in
theorem clo53 (x : S53) (g : Nat) (nm : ByteArray) (w : World) (hg : w.cell? ⟨g, 0, none⟩ = some (.string nm)) (hl : g < w.heap.size) :
    Calls Tryd.prog 31 #[.agg #[.string x.f0, .int .i64 x.f1], .pointer (some ⟨g, 0, none⟩)] w fun e w' => e = .returned (.bool (nmq53 nm x)) ∧ Below w.heap.size w w' := by
  have HB := Aside0.mk (below_alloc (Below.refl w.heap.size w) (.cells #[.string x.f0, .int .i64 x.f1] 53))
  go_enter Tryd.func31, Tryd.ntmps31
  go_wp2
  go_ret
  exact ⟨rfl, HB.out⟩
set_option maxHeartbeats 1000000 in
set_option maxRecDepth 100000 in
theorem idx53 (A0 : Option Addr) (c0 : Nat) (l : List S53) (g : Nat) (nm : ByteArray) (w : World) (hr : Kd.C k53 w A0 l.length l) (hg : w.cell? ⟨g, 0, none⟩ = some (.string nm)) (hl : g < w.heap.size) :
    Calls Tryd.prog 41 #[.slice A0 l.length c0, .func (.func 31) #[] #[.pointer (some ⟨g, 0, none⟩)]] w fun e w' => (∃ i : Int, e = .returned (.int .i64 i) ∧ decide (0 ≤ i) = l.any (nmq53 nm)) ∧ Below w.heap.size w w' := by
  have h63 : l.length ≤ 9223372036854775807 := hr.2.1
  have HR := Aside0.mk hr
  have HG := Aside0.mk hg
  clear hr hg
  go_enter Tryd.func41, Tryd.ntmps41
  go_wp2
  go_loopw [8] (fun v wr => ∃ i : Int, 0 ≤ i ∧ i ≤ l.length ∧ v = .int .i64 i ∧ Aside0 (Below w.heap.size w wr) ∧ Aside0 (l.any (nmq53 nm) = (l.drop i.toNat).any (nmq53 nm))) (fun v _ => (l.length - (intOf v).toNat))
  case atStart => exact ⟨0, by omega, by omega, rfl, ⟨Below.refl _ _⟩, ⟨by simp⟩⟩
  case round =>
    obtain ⟨i, h0, h1, rfl, hb, ha⟩ := hrel
    by_cases hlt : i < l.length
    · obtain ⟨ad, rfl, d0, d1⟩ := at_T53 (Kd.C_below HR.out hb.out) i h0 hlt
      have HG1 := Aside0.mk ((hb.out.cell (p := ⟨g, 0, none⟩) hl).trans HG.out)
      have HL1 := Aside0.mk (show g < wr.heap.size from Nat.lt_of_lt_of_le hl hb.out.size)
      go_wp2_with fail
      refine (clo53 (rd_T53 l i) g nm _ HG1.out HL1.out).mono ?_
      rintro e w1 ⟨rfl, hw1⟩
      clear d0 d1
      have hb1 := Aside0.mk (below_step hb.out hw1)
      clear hw1 hb HG1 HL1
      have hdrop : l.drop i.toNat = rd_T53 l i :: l.drop (i.toNat + 1) := by
        unfold rd_T53
        have hn : i.toNat < l.length := by omega
        rw [List.getD_eq_getElem?_getD, List.getElem?_eq_getElem hn]
        exact List.drop_eq_getElem_cons hn
      have hany : l.any (nmq53 nm) = (nmq53 nm (rd_T53 l i) || (l.drop (i.toNat + 1)).any (nmq53 nm)) := by rw [ha.out, hdrop, List.any_cons]
      clear hdrop ha
      cases hbv : nmq53 nm (rd_T53 l i) with
      | true =>
        have hA := Aside0.mk (show l.any (nmq53 nm) = true by rw [hany, hbv]; rfl)
        clear hany hbv
        go_wp2
        go_ret
        exact ⟨⟨i, rfl, by rw [hA.out]; exact decide_eq_true h0⟩, hb1.out⟩
      | false =>
        have hA := Aside0.mk (show l.any (nmq53 nm) = (l.drop (i + 1).toNat).any (nmq53 nm) by rw [hany, hbv, Bool.false_or, show (i + 1).toNat = i.toNat + 1 by omega])
        clear hany hbv
        go_wp2
        go_roundw
        case rel => exact ⟨i + 1, by omega, by omega, by go_num, hb1, hA⟩
        case measure => simp [intOf]; omega
    · have hend : i.toNat = l.length := by omega
      have hA := Aside0.mk (show l.any (nmq53 nm) = false by rw [ha.out, hend, List.drop_length]; rfl)
      clear ha hend
      go_wp2
      go_ret
      exact ⟨⟨-1, rfl, by rw [hA.out]; rfl⟩, hb.out⟩
set_option maxHeartbeats 1000000 in
set_option maxRecDepth 100000 in
theorem has53 (A0 : Option Addr) (c0 : Nat) (l : List S53) (g : Nat) (nm : ByteArray) (w : World) (hr : Kd.C k53 w A0 l.length l) (hg : w.cell? ⟨g, 0, none⟩ = some (.string nm)) (hl : g < w.heap.size) :
    Calls Tryd.prog 30 #[.slice A0 l.length c0, .func (.func 31) #[] #[.pointer (some ⟨g, 0, none⟩)]] w fun e w' => e = .returned (.bool (l.any (nmq53 nm))) ∧ Below w.heap.size w w' := by
  go_enter Tryd.func30, Tryd.ntmps30
  go_wp2_with fail
  refine (idx53 A0 c0 l g nm w hr hg hl).mono ?_
  rintro e w1 ⟨⟨i, rfl, hi⟩, hb⟩
  have H := Aside0.mk hi
  clear hi
  go_wp2
  go_ret
  exact ⟨by first | (rw [H.out]; rfl) | (rw [← H.out]; rfl), hb⟩
end Go.Proofs.YtodgaaggmlgenaaDoor.PC
