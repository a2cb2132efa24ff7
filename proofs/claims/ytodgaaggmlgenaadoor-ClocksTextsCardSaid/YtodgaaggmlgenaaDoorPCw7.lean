/- What the reference's number writes: the decimal digits. -/
import Derived.Test.YtodgaaggmlgenaaDoorPCw4
import Derived.Test.YtodgaaggmlgenaaDoorPCx28
set_option linter.unusedSectionVars false
namespace Go.Proofs.YtodgaaggmlgenaaDoor.PC
open Go.Sort Go.RowKit Go.Proofs.YtodgaaggmlgenaaDoorW.PrintWords Go.Proofs.YtodgaaggmlgenaaDoorW.PrintLast Go.Proofs.YtodgaaggmlgenaaDoorW.PrintMore
set_option linter.unusedVariables false
set_option linter.unusedSimpArgs false

set_option maxHeartbeats 1000000 in
set_option maxRecDepth 100000 in
theorem trim_calls (A : Option Addr) (c : Nat) (ds : List Int) (w : World) (hr : Kd.C (Kd.int .i64) w A ds.length ds) (hc : ds.length ≤ c) (hz : ds = [] ∨ ds.getD (ds.length - 1) 0 ≠ 0) :
    Calls Tryd.prog 45 #[.bool false, .slice A ds.length c] w fun e w' => e = .returned (.agg #[.bool false, .slice A ds.length c]) ∧ Below w.heap.size w w' := by
  have h63 : ds.length ≤ 9223372036854775807 := hr.2.1
  have HR := Aside0.mk hr
  have HB0 := Aside0.mk (below_alloc (Below.refl w.heap.size w) (.cells #[.bool false, .slice none 0 0] 77))
  clear hr
  go_enter Tryd.func45, Tryd.ntmps45
  go_wp2
  rcases hz with rfl | hz
  · go_loopw [5] (fun v wr => v = .int .i64 0 ∧ Aside0 (Below w.heap.size w wr) ∧ Aside0 (wr.heap[w.heap.size]? = some (.cells #[.bool false, .slice none 0 0] 77 (0, 0)))) (fun v _ => 0)
    case atStart => exact ⟨rfl, HB0, ⟨blk_new w _⟩⟩
    case round =>
      clear HB0
      obtain ⟨rfl, HB, BK⟩ := hrel
      have b0 : wr.frozen? ⟨w.heap.size, 0, none⟩ = false := blk_frozen BK.out 0
      have b1 : wr.frozen? ⟨w.heap.size, 1, none⟩ = false := blk_frozen BK.out 1
      have g0 : wr.cell? ⟨w.heap.size, 0, none⟩ = some (.bool false) := (blk_cell BK.out 0).trans rfl
      have g1 : wr.cell? ⟨w.heap.size, 1, none⟩ = some (.slice none 0 0) := (blk_cell BK.out 1).trans rfl
      go_wp2
      refine bodyPost_ret (results_cell_row rfl _ _ w.heap.size 77 #[.bool false, .slice A 0 c] (0, 0) _ rfl (blk_put (cs := #[.bool false, .slice none 0 0]) (blk_put (cs := #[.bool false, .slice none 0 0]) BK.out 0 _ rfl) 1 _ rfl) Tryd.underlying77 rfl (by kernel_rfl)) rfl ?_
      exact ⟨rfl, below_set (below_set HB.out (Nat.le_refl _)) (Nat.le_refl _)⟩
  · have hpos : 0 < ds.length := by
      rcases Nat.eq_zero_or_pos ds.length with h0 | h0
      · exact absurd (by rw [List.length_eq_zero_iff.mp h0]; rfl) hz
      · exact h0
    go_loopw [5] (fun v wr => v = .int .i64 ds.length ∧ Aside0 (Below w.heap.size w wr) ∧ Aside0 (wr.heap[w.heap.size]? = some (.cells #[.bool false, .slice none 0 0] 77 (0, 0)))) (fun v _ => 0)
    case atStart => exact ⟨rfl, HB0, ⟨blk_new w _⟩⟩
    case round =>
      clear HB0
      obtain ⟨rfl, HB, BK⟩ := hrel
      have b0 : wr.frozen? ⟨w.heap.size, 0, none⟩ = false := blk_frozen BK.out 0
      have b1 : wr.frozen? ⟨w.heap.size, 1, none⟩ = false := blk_frozen BK.out 1
      have g0 : wr.cell? ⟨w.heap.size, 0, none⟩ = some (.bool false) := (blk_cell BK.out 0).trans rfl
      have g1 : wr.cell? ⟨w.heap.size, 1, none⟩ = some (.slice none 0 0) := (blk_cell BK.out 1).trans rfl
      obtain ⟨ad, rfl, dl⟩ := Kd.at_int (Kd.C_below HR.out HB.out) ((ds.length : Int) - 1) (by omega) (by omega)
      rw [show ((ds.length : Int) - 1).toNat = ds.length - 1 by omega] at dl
      have e1 : decide (0 < (ds.length : Int)) = true := decide_eq_true (by omega)
      have e2 : (rd ds ((ds.length : Int) - 1) == 0) = false := beq_eq_false_iff_ne.mpr (by
        unfold rd
        rw [show ((ds.length : Int) - 1).toNat = ds.length - 1 by omega]
        exact hz)
      have e3 : ((ds.length : Int) ≤ (c : Int)) = True := eq_true (by omega)
      go_wp2
      refine bodyPost_ret (results_cell_row rfl _ _ w.heap.size 77 #[.bool false, .slice (some ad) ds.length c] (0, 0) _ rfl (blk_put (cs := #[.bool false, .slice none 0 0]) (blk_put (cs := #[.bool false, .slice none 0 0]) BK.out 0 _ rfl) 1 _ rfl) Tryd.underlying77 rfl (by kernel_rfl)) rfl ?_
      exact ⟨rfl, below_set (below_set HB.out (Nat.le_refl _)) (Nat.le_refl _)⟩
end Go.Proofs.YtodgaaggmlgenaaDoor.PC
