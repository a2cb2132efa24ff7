-- the contract of floors: hand-written; the function and its rounds as the print has them
import Derived.Test.YtgajgnemfccnhaaPAx0
import Derived.Test.YtgajgnemfccnhaaPAx2
import Derived.Test.YtgajgnemfccnhaaPAx23
import Derived.Test.YtgajgnemfccnhaaPAx27
import Derived.Test.YtgajgnemfccnhaaPAx28
namespace Go.Proofs.Ytgajgnemfccnhaa.PA
open Go.RowKit Go.Proofs.YtgajgnemfccnhaaW.PrintWords Go.Proofs.YtgajgnemfccnhaaW.PrintLast Go.Proofs.YtgajgnemfccnhaaW.PrintMore
attribute [local go_sem] max2_int min2_int max_two min_two max_three min_three max_four min_four   -- for this text's walks alone
set_option linter.unusedVariables false
set_option linter.unusedSimpArgs false

attribute [local go_sem high] eqA49
/-! ### masklaw4_floors: function 18 -/
def masklaw4_floors.f (k : Nat)  : Option (Bool) := (some (([(⟨(⟨#[97]⟩ : ByteArray), false, 0, 0⟩ : S96)] : List (S96)) : List (S96))).bind fun y215 => ((floor_Size.f 1 2 2 ([] : List (S98)) ([] : List (S100)) y215).bind fun bt219 => ((floor_At.f k 1 2 2 ([] : List (S98)) ([] : List (S100)) y215 (⟨#[97]⟩ : ByteArray) false).bind fun bt221 => (if bt219.1 = 16 then (if bt219.2 = 12 then (if bt221.2.2 = true then (if (bt221.1 == 0 && (bt221.2.1 == 0)) = true then ((floor_Check.f k 1 2 2 ([] : List (S98)) ([] : List (S100)) y215).bind fun t225 => (if t225 = 0 then ((floor_Check.f k 0 0 0 ([] : List (S98)) ([] : List (S100)) ([] : List (S96))).bind fun t226 => (some (t226 == 2))) else (some false))) else (some false)) else (some false)) else (some false)) else (some false))))
theorem masklaw4_floors.mono : ∀ k, LeO (masklaw4_floors.f k ) (masklaw4_floors.f (k + 1) ) := by
  intro  k
  unfold masklaw4_floors.f
  repeat' first
      | (with_reducible exact floor_At.mono _ _ _ _ _ _ _ _ _)
      | (with_reducible exact floor_Check.mono _ _ _ _ _ _ _)
      | (with_reducible exact LeO.refl _)
      | (with_reducible exact LeO.none _)
      | (with_reducible refine LeO.ite ?_ ?_)
      | (with_reducible refine LeO.bind ?_ (fun _ => ?_))
      | exact floor_At.mono _ _ _ _ _ _ _ _ _
      | exact floor_Check.mono _ _ _ _ _ _ _
      | exact LeO.none _
      | refine LeO.ite ?_ ?_
      | refine LeO.bind ?_ (fun _ => ?_)

theorem floors_eq (k : Nat) (r : Bool) (h : masklaw4_floors.f k = some r) : r = true := by
  have h0 : masklaw4_floors.f 20 = some true := by decide +kernel
  have h1 := at_rounds (fun k => masklaw4_floors.mono k) (Nat.le_max_left k 20) h
  have h2 := at_rounds (fun k => masklaw4_floors.mono k) (Nat.le_max_right k 20) h0
  exact Option.some.inj (h1.symm.trans h2)
abbrev prt : List S96 := [(⟨(⟨#[97]⟩ : ByteArray), false, 0, 0⟩ : S96)]
theorem fl_size : floor_Size.f 1 2 2 ([] : List (S98)) ([] : List (S100)) prt = some (16, 12) := by decide +kernel
theorem fl_at : floor_At.f 20 1 2 2 ([] : List (S98)) ([] : List (S100)) prt (⟨#[97]⟩ : ByteArray) false = some (0, 0, true) := by decide +kernel
theorem fl_check : floor_Check.f 20 1 2 2 ([] : List (S98)) ([] : List (S100)) prt = some 0 := by decide +kernel
theorem fl_none : floor_Check.f 20 0 0 0 ([] : List (S98)) ([] : List (S100)) ([] : List (S96)) = some 2 := by decide +kernel
theorem noC {α : Type} (d : Kd α) (w : World) (A : Option Addr) : Kd.C d w A 0 [] := ⟨rfl, by decide, fun h => absurd h (by decide)⟩
theorem fl_row {w : World} {g : Nat} (B : w.heap[g]? = some (.cells #[.string (⟨#[97]⟩ : ByteArray), .bool false, .int .i64 0, .int .i64 0] 96 (0, 0))) : Kd.C k96 w (some ⟨g, 0, none⟩) prt.length prt := by
  refine ⟨rfl, by decide, fun _ => ⟨_, rfl, fun j p hj => ?_⟩⟩
  match j, hj with
  | 0, hj =>
    obtain rfl := Option.some.inj hj
    refine ⟨[.string (⟨#[97]⟩ : ByteArray), .bool false, .int .i64 0, .int .i64 0], rfl, k96_mk w _, fun i u hu => ?_⟩
    rw [Nat.zero_mul, Nat.zero_add]
    have e : (⟨g, 0, none⟩ : Addr).add i = ⟨g, i, none⟩ := by
      unfold Addr.add
      split
      · rename_i h
        rw [h]
      · simp
    rw [e, blk_cell B i]
    simpa using hu
theorem fl_keep (w : World) (cs0 cs1 : Array Value) (w1 : World) (h : Below ((w.alloc (.cells cs0 96)).alloc (.cells cs1 57)).heap.size ((w.alloc (.cells cs0 96)).alloc (.cells cs1 57)) w1) :
    w1.heap[w.heap.size]? = some (.cells cs0 96 (0, 0)) ∧ w1.heap[w.heap.size + 1]? = some (.cells cs1 57 (0, 0)) ∧ Below w.heap.size w w1 := by
  refine ⟨blk_below (blk_alloc (blk_new w _) _) h, ?_, below_step (below_alloc (below_alloc (Below.refl _ _) _) _) h⟩
  have := blk_below (blk_new (w.alloc (.cells cs0 96)) (.cells cs1 57)) h
  simpa using this
theorem fl_cells {w : World} {g : Nat} {a b c d e f : Value} (B : w.heap[g]? = some (.cells #[a, b, c, d, e, f] 57 (0, 0))) :
    w.cell? ⟨g, 0, none⟩ = some a ∧ w.cell? ⟨g, 1, none⟩ = some b ∧ w.cell? ⟨g, 2, none⟩ = some c ∧ w.cell? ⟨g, 3, none⟩ = some d ∧ w.cell? ⟨g, 4, none⟩ = some e ∧ w.cell? ⟨g, 5, none⟩ = some f :=
  ⟨blk_cell B 0, blk_cell B 1, blk_cell B 2, blk_cell B 3, blk_cell B 4, blk_cell B 5⟩
set_option maxHeartbeats 400000 in
set_option maxRecDepth 100000 in
theorem masklaw4_floors.calls (k : Nat)  (r : Bool) (w : World) (h : masklaw4_floors.f k  = some r) :
    Calls Try.prog 18 #[] w fun e w' => e = .returned (.bool r) ∧ Below w.heap.size w w' := by
  obtain rfl := floors_eq k r h
  clear h
  go_enter Try.func18, Try.ntmps18
  go_wp2_with fail
  refine (floor_Size.calls 1 2 2 none 0 [] none 0 [] (some ⟨w.heap.size, 0, none⟩) 1 prt 16 12 _ ?_ (by simp) ?_ (by simp) ?_ (by simp) fl_size).mono ?_
  · exact noC _ _ _
  · exact noC _ _ _
  · exact fl_row (blk_alloc (blk_new w _) _)
  rintro e w1 ⟨rfl, hb1⟩
  obtain ⟨B0, B1, HB⟩ := fl_keep w _ _ w1 hb1
  clear hb1
  obtain ⟨c0, c1, c2, c3, c4, c5⟩ := fl_cells B1
  go_wp2_with fail
  refine (floor_At.calls 20 1 2 2 none 0 [] none 0 [] (some ⟨w.heap.size, 0, none⟩) 1 prt (⟨#[97]⟩ : ByteArray) false 0 0 true _ ?_ (by simp) ?_ (by simp) ?_ (by simp) fl_at).mono ?_
  · exact noC _ _ _
  · exact noC _ _ _
  · exact fl_row B0
  rintro e w2 ⟨rfl, hb2⟩
  clear c0 c1 c2 c3 c4 c5
  replace B0 := blk_below B0 hb2
  replace B1 := blk_below B1 hb2
  replace HB := below_step HB hb2
  clear hb2
  obtain ⟨c0, c1, c2, c3, c4, c5⟩ := fl_cells B1
  have hs : w.heap.size + 1 < w2.heap.size := blk_lt B1
  go_wp2_with fail
  refine (floor_Check.calls 20 1 2 2 none 0 [] none 0 [] (some ⟨w.heap.size, 0, none⟩) 1 prt 0 _ ?_ (by simp) ?_ (by simp) ?_ (by simp) fl_check).mono ?_
  · exact noC _ _ _
  · exact noC _ _ _
  · exact fl_row (blk_alloc B0 _)
  rintro e w3 ⟨rfl, hb3⟩
  clear c0 c1 c2 c3 c4 c5 hs
  replace HB := below_step (below_alloc HB _) hb3
  clear hb3 B0 B1
  go_wp2_with fail
  refine (floor_Check.calls 20 0 0 0 none 0 [] none 0 [] none 0 [] 2 _ ?_ (by simp) ?_ (by simp) ?_ (by simp) fl_none).mono ?_
  · exact noC _ _ _
  · exact noC _ _ _
  · exact noC _ _ _
  rintro e w4 ⟨rfl, hb4⟩
  replace HB := below_step HB hb4
  clear hb4
  go_wp2
  go_ret
  exact ⟨rfl, HB⟩
end Go.Proofs.Ytgajgnemfccnhaa.PA
