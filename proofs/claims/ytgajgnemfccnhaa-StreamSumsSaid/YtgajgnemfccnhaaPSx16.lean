-- PRINTED by print.py (a twelfth state) out of the translation. Not trusted: Lean checks it.
import Derived.Test.YtgajgnemfccnhaaPSx0
import Derived.Test.YtgajgnemfccnhaaPSx2
import Derived.Test.YtgajgnemfccnhaaPSx3
namespace Go.Proofs.Ytgajgnemfccnhaa.PS
open Go.RowKit Go.Proofs.YtgajgnemfccnhaaW.PrintWords Go.Proofs.YtgajgnemfccnhaaW.PrintLast Go.Proofs.YtgajgnemfccnhaaW.PrintMore
attribute [local go_sem] max2_int min2_int max_two min_two max_three min_three max_four min_four   -- for this text's walks alone
set_option linter.unusedVariables false
set_option linter.unusedSimpArgs false

-- the contract of function 38 (maskwright/masklaw4.streams): written by hand
/-! ### masklaw4_streams: function 38 -/
def masklaw4_streams.f : Option Bool := some true
theorem st_b1 : stream_reader_bits.f 20 [] 0 false 16 = some (0, 16, true) := by decide +kernel
theorem st_b2 : stream_reader_bits.f 20 [] 16 true 8 = some (0, 24, true) := by decide +kernel
theorem st_b3 : stream_reader_bits.f 20 [] 24 true 8 = some (0, 32, true) := by decide +kernel
theorem st_b4 : stream_reader_bits.f 20 [] 32 true 8 = some (0, 40, true) := by decide +kernel
theorem st_b5 : stream_reader_bits.f 20 [] 40 true 8 = some (0, 48, true) := by decide +kernel
abbrev st_txt : List Int := [49, 50, 51, 52, 53, 54, 55, 56, 57]
theorem st_sum : stream_Sum.f 120 st_txt = some 10673 := by decide +kernel
set_option maxHeartbeats 1000000 in
set_option maxRecDepth 100000 in
theorem st_part.calls (g : Nat) (w0 w : World) (hI : IsS121 w0 w g [] 48 true) :
    Calls Try.prog 62 #[.pointer (some ⟨g, 0, none⟩), .int .i64 0, .int .i64 0] w fun e w' => e = .returned (.int .i64 11) ∧ w' = w := by
  obtain ⟨A0, c0, hb, hg, hc⟩ := hI
  have x0 := blk_cell hb 0
  have x1 := blk_cell hb 1
  simp at x0 x1
  go_enter Try.func62, Try.ntmps62
  go_wp2_with fail
  go_ret
  exact ⟨rfl, rfl⟩
abbrev st_o1 : Obj := .cells #[.int .i64 0, .int .i64 0, .int .i64 0, .slice none 0 0, .slice none 0 0, .slice none 0 0] 113
abbrev st_o2 : Obj := .cells #[.slice none 0 0, .int .i64 0, .bool false] 121
set_option maxHeartbeats 1000000 in
set_option maxRecDepth 100000 in
theorem st_dec.calls (w : World) :
    Calls Try.prog 56 #[.slice none 0 0] w fun e w' => e = .returned (.tuple #[.agg #[.int .i64 0, .int .i64 0, .int .i64 0, .slice none 0 0, .slice none 0 0, .slice none 0 0], .int .i64 11]) ∧ Below w.heap.size w w' := by
  go_enter Try.func56, Try.ntmps56
  go_wp2_with fail
  have HB := below_alloc (below_alloc (Below.refl w.heap.size w) st_o1) st_o2
  have BC := blk_alloc (blk_new w st_o1) st_o2
  have hI : IsS121 w ((w.alloc st_o1).alloc st_o2) (w.heap.size + 1) [] 0 false := ⟨none, 0, Hnd.blk_new1 w _ _, by omega, Hnd.noC _ _ _⟩
  refine (stream_reader_bits.calls 20 (w.heap.size + 1) [] 0 false 16 0 16 true w _ hI HB st_b1).mono ?_
  rintro e w1 ⟨rfl, hI1, HB1, hk1⟩
  replace BC := KeepBut.blk hk1 BC (by omega) (by simp)
  clear hI HB hk1
  go_wp2_with fail
  refine (stream_reader_bits.calls 20 (w.heap.size + 1) [] 16 true 8 0 24 true w _ hI1 HB1 st_b2).mono ?_
  rintro e w2 ⟨rfl, hI2, HB2, hk2⟩
  replace BC := KeepBut.blk hk2 BC (by omega) (by simp)
  clear hI1 HB1 hk2
  go_wp2_with fail
  refine (stream_reader_bits.calls 20 (w.heap.size + 1) [] 24 true 8 0 32 true w _ hI2 HB2 st_b3).mono ?_
  rintro e w3 ⟨rfl, hI3, HB3, hk3⟩
  replace BC := KeepBut.blk hk3 BC (by omega) (by simp)
  clear hI2 HB2 hk3
  go_wp2_with fail
  refine (stream_reader_bits.calls 20 (w.heap.size + 1) [] 32 true 8 0 40 true w _ hI3 HB3 st_b4).mono ?_
  rintro e w4 ⟨rfl, hI4, HB4, hk4⟩
  replace BC := KeepBut.blk hk4 BC (by omega) (by simp)
  clear hI3 HB3 hk4
  go_wp2_with fail
  refine (stream_reader_bits.calls 20 (w.heap.size + 1) [] 40 true 8 0 48 true w _ hI4 HB4 st_b5).mono ?_
  rintro e w5 ⟨rfl, hI5, HB5, hk5⟩
  replace BC := KeepBut.blk hk5 BC (by omega) (by simp)
  clear hI4 HB4 hk5
  go_wp2_with fail
  obtain ⟨A5, c5, hb5, hg5, hc5⟩ := hI5
  refine (st_part.calls (w.heap.size + 1) w (w5.alloc st_o1) ⟨A5, c5, blk_alloc hb5 _, hg5, hc5⟩).mono ?_
  rintro e w6 ⟨rfl, rfl⟩
  clear hb5 hg5 hc5
  have HB6 := below_alloc HB5 st_o1
  have B0 := blk_alloc BC st_o1
  clear BC HB5
  generalize w5.alloc st_o1 = W at HB6 B0 ⊢
  have B1 := blk_put B0 0 (.int .i64 0) rfl
  have B2 := blk_put B1 1 (.int .i64 0) rfl
  have B3 := blk_put B2 2 (.int .i64 0) rfl
  have B4 := blk_put B3 3 (.slice none 0 0) rfl
  have B5 := blk_put B4 4 (.slice none 0 0) rfl
  have B6 := blk_put B5 5 (.slice none 0 0) rfl
  have HB7 := below_set (g := w.heap.size) (j := 5) (v := .slice none 0 0) (below_set (g := w.heap.size) (j := 4) (v := .slice none 0 0) (below_set (g := w.heap.size) (j := 3) (v := .slice none 0 0) (below_set (g := w.heap.size) (j := 2) (v := .int .i64 0) (below_set (g := w.heap.size) (j := 1) (v := .int .i64 0) (below_set (g := w.heap.size) (j := 0) (v := .int .i64 0) HB6 (Nat.le_refl _)) (Nat.le_refl _)) (Nat.le_refl _)) (Nat.le_refl _)) (Nat.le_refl _)) (Nat.le_refl _)
  have x0 := blk_cell B0 0
  have y0 := blk_frozen B0 0
  have x1 := blk_cell B1 1
  have y1 := blk_frozen B1 1
  have x2 := blk_cell B2 2
  have y2 := blk_frozen B2 2
  have x3 := blk_cell B3 3
  have y3 := blk_frozen B3 3
  have x4 := blk_cell B4 4
  have y4 := blk_frozen B4 4
  have x5 := blk_cell B5 5
  have y5 := blk_frozen B5 5
  have z0 := blk_cell B6 0
  have z1 := blk_cell B6 1
  have z2 := blk_cell B6 2
  have z3 := blk_cell B6 3
  have z4 := blk_cell B6 4
  have z5 := blk_cell B6 5
  clear B0 B1 B2 B3 B4 B5 B6
  simp at x0 x1 x2 x3 x4 x5 z0 z1 z2 z3 z4 z5
  go_wp2_with fail
  refine bodyPost_ret (v := .tuple #[.agg #[.int .i64 0, .int .i64 0, .int .i64 0, .slice none 0 0, .slice none 0 0, .slice none 0 0], .int .i64 11]) (by simp [results, Try.results56, z0, z1, z2, z3, z4, z5, go_sem]) rfl ⟨rfl, HB7⟩
/-- A row that is a whole block, some place of which may be marked. -/
theorem st_row {w : World} {g T : Nat} {k : IntKind} {fr : Nat × Nat} {cells : Array Value} {xs : List Int} (B : w.heap[g]? = some (.cells cells T fr)) (hc : cells.toList = xs.map (Value.int k)) (hm : xs.length ≤ 9223372036854775807) : Kd.C (Kd.int k) w (some ⟨g, 0, none⟩) xs.length xs := by
  have hrep : Reps ((Kd.int k).K w) (Kd.int k).sz xs cells.toList := by rw [hc]; exact Kd.reps_scalar xs
  refine ⟨rfl, hm, fun _ => ⟨_, rfl, fun j p hj => ?_⟩⟩
  have hr := hrep.2 j p hj
  refine ⟨_, (Kd.int k).K_len hr, hr, fun i u hu => ?_⟩
  rw [Hnd.add0, cell_of_row w g _ cells T fr B]
  have hi : i < (Kd.int k).sz := by
    have := (List.getElem?_eq_some_iff.1 hu).1
    rw [(Kd.int k).K_len hr] at this
    exact this
  rw [List.getElem?_take_of_lt hi, List.getElem?_drop] at hu
  simpa using hu
set_option maxHeartbeats 1000000 in
set_option maxRecDepth 100000 in
theorem masklaw4_streams.calls (r : Bool) (w : World) (h : masklaw4_streams.f = some r) :
    Calls Try.prog 38 #[] w fun e w' => e = .returned (.bool r) ∧ Below w.heap.size w w' := by
  obtain rfl := Option.some.inj h
  clear h
  go_enter Try.func38, Try.ntmps38
  go_wp2_with fail
  refine (st_dec.calls w).mono ?_
  rintro e w1 ⟨rfl, HB1⟩
  have kc : (convert 79 79 (.slice (some ⟨w1.heap.size + 1, 0, none⟩) 9 9)).run Try.prog ((w1.alloc st_o1).alloc (.cells #[.int .u8 49, .int .u8 50, .int .u8 51, .int .u8 52, .int .u8 53, .int .u8 54, .int .u8 55, .int .u8 56, .int .u8 57] 5)) = .ok (.slice (some ⟨w1.heap.size + 1, 0, none⟩) 9 9) ((w1.alloc st_o1).alloc (.cells #[.int .u8 49, .int .u8 50, .int .u8 51, .int .u8 52, .int .u8 53, .int .u8 54, .int .u8 55, .int .u8 56, .int .u8 57] 5 (9, 10))) := by
    have := Lib.run_convert_bytes_const (P := Try.prog) (w1.alloc st_o1) 79 5 #[.int .u8 49, .int .u8 50, .int .u8 51, .int .u8 52, .int .u8 53, .int .u8 54, .int .u8 55, .int .u8 56, .int .u8 57] 9 9 Try.underlying79 Try.underlying5
    simpa using this
  go_wp2_with fail
  refine (stream_Sum.calls 120 (some ⟨w1.heap.size + 1, 0, none⟩) 9 st_txt 10673 _ (st_row (Hnd.blk_new1 w1 _ _) rfl (by decide)) (by decide) st_sum).mono ?_
  rintro e w2 ⟨rfl, HB2⟩
  have HB3 := below_step (below_alloc (below_alloc HB1 _) _) HB2.below
  clear kc
  go_wp2
  go_ret
  exact ⟨rfl, HB3⟩

end Go.Proofs.Ytgajgnemfccnhaa.PS
