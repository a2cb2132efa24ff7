-- PRINTED by print.py (a twelfth state) out of the translation. Not trusted: Lean checks it.
import Derived.Test.YtgajgnemfccnhaaPLx0
import Derived.Test.YtgajgnemfccnhaaPLx1
import Derived.Test.YtgajgnemfccnhaaPLx5
import Derived.Test.YtgajgnemfccnhaaPLx6
namespace Go.Proofs.Ytgajgnemfccnhaa.PL
open Go.RowKit Go.Proofs.YtgajgnemfccnhaaW.PrintWords Go.Proofs.YtgajgnemfccnhaaW.PrintLast Go.Proofs.YtgajgnemfccnhaaW.PrintMore
attribute [local go_sem] max2_int min2_int max_two min_two max_three min_three max_four min_four   -- for this text's walks alone
set_option linter.unusedVariables false
set_option linter.unusedSimpArgs false

-- the contract of function 18 (maskwright/masklaw4.floors): written by hand
/-! ### masklaw4_floors: function 18 -/
def masklaw4_floors.f : Option Bool := some true
abbrev flprt : List S96 := [(⟨(⟨#[97]⟩ : ByteArray), false, 0, 0⟩ : S96)]
theorem fl_size : floor_Size.f 1 2 2 ([] : List (S98)) ([] : List (S100)) flprt = some (16, 12) := by decide +kernel
theorem fl_at : floor_At.f 20 1 2 2 ([] : List (S98)) ([] : List (S100)) flprt (⟨#[97]⟩ : ByteArray) false = some (0, 0, true) := by decide +kernel
theorem fl_check : floor_Check.f 20 1 2 2 ([] : List (S98)) ([] : List (S100)) flprt = some 0 := by decide +kernel
theorem fl_none : floor_Check.f 20 0 0 0 ([] : List (S98)) ([] : List (S100)) ([] : List (S96)) = some 2 := by decide +kernel
theorem fl_row {w : World} {g : Nat} (B : w.heap[g]? = some (.cells #[.string (⟨#[97]⟩ : ByteArray), .bool false, .int .i64 0, .int .i64 0] 96 (0, 0))) : Kd.C k96 w (some ⟨g, 0, none⟩) flprt.length flprt := by
  refine ⟨rfl, by decide, fun _ => ⟨_, rfl, fun j p hj => ?_⟩⟩
  match j, hj with
  | 0, hj =>
    obtain rfl := Option.some.inj hj
    refine ⟨[.string (⟨#[97]⟩ : ByteArray), .bool false, .int .i64 0, .int .i64 0], rfl, k96_mk w _, fun i u hu => ?_⟩
    rw [Nat.zero_mul, Nat.zero_add]
    have e : (⟨g, 0, none⟩ : Addr).add i = ⟨g, i, none⟩ := by
      unfold Addr.add
      split
      · rename_i h
        rw [h]
      · simp
    rw [e, blk_cell B i]
    simpa using hu
theorem fl_keep (w : World) (cs0 cs1 : Array Value) (w1 : World) (h : Below ((w.alloc (.cells cs0 96)).alloc (.cells cs1 57)).heap.size ((w.alloc (.cells cs0 96)).alloc (.cells cs1 57)) w1) :
    w1.heap[w.heap.size]? = some (.cells cs0 96 (0, 0)) ∧ w1.heap[w.heap.size + 1]? = some (.cells cs1 57 (0, 0)) ∧ Below w.heap.size w w1 := by
  refine ⟨blk_below (blk_alloc (blk_new w _) _) h, ?_, below_step (below_alloc (below_alloc (Below.refl _ _) _) _) h⟩
  have := blk_below (blk_new (w.alloc (.cells cs0 96)) (.cells cs1 57)) h
  simpa using this
theorem fl_cells {w : World} {g : Nat} {a b c d e f : Value} (B : w.heap[g]? = some (.cells #[a, b, c, d, e, f] 57 (0, 0))) :
    w.cell? ⟨g, 0, none⟩ = some a ∧ w.cell? ⟨g, 1, none⟩ = some b ∧ w.cell? ⟨g, 2, none⟩ = some c ∧ w.cell? ⟨g, 3, none⟩ = some d ∧ w.cell? ⟨g, 4, none⟩ = some e ∧ w.cell? ⟨g, 5, none⟩ = some f :=
  ⟨blk_cell B 0, blk_cell B 1, blk_cell B 2, blk_cell B 3, blk_cell B 4, blk_cell B 5⟩
set_option maxHeartbeats 400000 in
set_option maxRecDepth 100000 in
theorem masklaw4_floors.calls (r : Bool) (w : World) (h : masklaw4_floors.f = some r) :
    Calls Try.prog 18 #[] w fun e w' => e = .returned (.bool r) ∧ Below w.heap.size w w' := by
  obtain rfl := Option.some.inj h
  clear h
  go_enter Try.func18, Try.ntmps18
  go_wp2_with fail
  refine (floor_Size.calls 1 2 2 none 0 [] none 0 [] (some ⟨w.heap.size, 0, none⟩) 1 flprt 16 12 _ ?_ (by simp) ?_ (by simp) ?_ (by simp) fl_size).mono ?_
  · exact Hnd.noC _ _ _
  · exact Hnd.noC _ _ _
  · exact fl_row (blk_alloc (blk_new w _) _)
  rintro e w1 ⟨rfl, hb1⟩
  obtain ⟨B0, B1, HB⟩ := fl_keep w _ _ w1 hb1
  clear hb1
  obtain ⟨c0, c1, c2, c3, c4, c5⟩ := fl_cells B1
  go_wp2_with fail
  refine (floor_At.calls 20 1 2 2 none 0 [] none 0 [] (some ⟨w.heap.size, 0, none⟩) 1 flprt (⟨#[97]⟩ : ByteArray) false 0 0 true _ ?_ (by simp) ?_ (by simp) ?_ (by simp) fl_at).mono ?_
  · exact Hnd.noC _ _ _
  · exact Hnd.noC _ _ _
  · exact fl_row B0
  rintro e w2 ⟨rfl, hb2⟩
  clear c0 c1 c2 c3 c4 c5
  replace B0 := blk_below B0 hb2
  replace B1 := blk_below B1 hb2
  replace HB := below_step HB hb2
  clear hb2
  obtain ⟨c0, c1, c2, c3, c4, c5⟩ := fl_cells B1
  have hs : w.heap.size + 1 < w2.heap.size := blk_lt B1
  go_wp2_with fail
  refine (floor_Check.calls 20 1 2 2 none 0 [] none 0 [] (some ⟨w.heap.size, 0, none⟩) 1 flprt 0 _ ?_ (by simp) ?_ (by simp) ?_ (by simp) fl_check).mono ?_
  · exact Hnd.noC _ _ _
  · exact Hnd.noC _ _ _
  · exact fl_row (blk_alloc B0 _)
  rintro e w3 ⟨rfl, hb3⟩
  clear c0 c1 c2 c3 c4 c5 hs
  replace HB := below_step (below_alloc HB _) hb3
  clear hb3 B0 B1
  go_wp2_with fail
  refine (floor_Check.calls 20 0 0 0 none 0 [] none 0 [] none 0 [] 2 _ ?_ (by simp) ?_ (by simp) ?_ (by simp) fl_none).mono ?_
  · exact Hnd.noC _ _ _
  · exact Hnd.noC _ _ _
  · exact Hnd.noC _ _ _
  rintro e w4 ⟨rfl, hb4⟩
  replace HB := below_step HB hb4
  clear hb4
  go_wp2
  go_ret
  exact ⟨rfl, HB⟩

end Go.Proofs.Ytgajgnemfccnhaa.PL
