/- The closed run by which the laws on clocks begin. -/
import Derived.Test.YtodgaaggmlgenaaDoorPCw5
import Derived.Test.YtodgaaggmlgenaaDoorPCx1
set_option linter.unusedSectionVars false
namespace Go.Proofs.YtodgaaggmlgenaaDoor.PC
open Go.Sort Go.RowKit Go.Proofs.YtodgaaggmlgenaaDoorW.PrintWords Go.Proofs.YtodgaaggmlgenaaDoorW.PrintLast Go.Proofs.YtodgaaggmlgenaaDoorW.PrintMore
set_option linter.unusedVariables false
set_option linter.unusedSimpArgs false
theorem cells4 {w : World} {g T : Nat} {a b c d : Value} (h : w.heap[g]? = some (.cells #[a, b, c, d] T (0, 0))) : w.cell? ⟨g, 0, none⟩ = some a ∧ w.cell? ⟨g, 1, none⟩ = some b ∧ w.cell? ⟨g, 2, none⟩ = some c ∧ w.cell? ⟨g, 3, none⟩ = some d :=
  ⟨by rw [Lib.cell_of_heap h]; rfl, by rw [Lib.cell_of_heap h]; rfl, by rw [Lib.cell_of_heap h]; rfl, by rw [Lib.cell_of_heap h]; rfl⟩
def pA : S49 := ⟨⟨#[97]⟩, ⟨#[]⟩, 2⟩
def pB : S49 := ⟨⟨#[]⟩, ⟨#[98]⟩, 0⟩
def pths : List S49 := [pA, pB]
theorem addr0 (g n : Nat) : (⟨g, 0, none⟩ : Addr).add n = ⟨g, n, none⟩ := by
  unfold Addr.add
  split
  · rename_i h
    rw [h]
  · simp
theorem pths_row {w : World} {g : Nat} (B : w.heap[g]? = some (.cells #[.string ⟨#[97]⟩, .string ⟨#[]⟩, .int .i64 2, .string ⟨#[]⟩, .string ⟨#[98]⟩, .int .i64 0] 49 (0, 0))) : Kd.C k49 w (some ⟨g, 0, none⟩) pths.length pths := by
  refine ⟨rfl, by decide, fun _ => ⟨_, rfl, fun j p hj => ?_⟩⟩
  match j, hj with
  | 0, hj =>
    obtain rfl : pA = p := Option.some.inj hj
    refine ⟨[.string ⟨#[97]⟩, .string ⟨#[]⟩, .int .i64 2], rfl, k49_mk w _, fun i u hu => ?_⟩
    rw [Nat.zero_mul, Nat.zero_add, addr0]
    match i, hu with
    | 0, hu => obtain rfl := Option.some.inj hu; exact (blk_cell B 0).trans rfl
    | 1, hu => obtain rfl := Option.some.inj hu; exact (blk_cell B 1).trans rfl
    | 2, hu => obtain rfl := Option.some.inj hu; exact (blk_cell B 2).trans rfl
    | i + 3, hu => simp at hu
  | 1, hj =>
    obtain rfl : pB = p := Option.some.inj hj
    refine ⟨[.string ⟨#[]⟩, .string ⟨#[98]⟩, .int .i64 0], rfl, k49_mk w _, fun i u hu => ?_⟩
    rw [addr0]
    match i, hu with
    | 0, hu => obtain rfl := Option.some.inj hu; exact (blk_cell B 3).trans rfl
    | 1, hu => obtain rfl := Option.some.inj hu; exact (blk_cell B 4).trans rfl
    | 2, hu => obtain rfl := Option.some.inj hu; exact (blk_cell B 5).trans rfl
    | i + 3, hu => simp at hu
  | j + 2, hj => simp [pths] at hj
theorem noC {α : Type} (d : Kd α) (w : World) : Kd.C d w none ([] : List α).length [] := Kd.C_nil d w
theorem cyc1 : clocks_Cycles.f 3 5 [] [] pths ⟨#[97]⟩ ⟨#[98]⟩ = some 2 := by decide +kernel
theorem cyc2 : clocks_Cycles.f 3 5 [] [] pths ⟨#[99]⟩ ⟨#[98]⟩ = some 0 := by decide +kernel
theorem cyc3 : clocks_Cycles.f 3 5 [] [] pths ⟨#[99]⟩ ⟨#[100]⟩ = some 1 := by decide +kernel
theorem chk0 : CheckV 5 [] [] pths = 0 := by decide +kernel
set_option maxHeartbeats 4000000 in
set_option maxRecDepth 100000 in
theorem asks_calls (w : World) : Calls Tryd.prog 6 #[] w fun e w' => e = .returned (.bool true) ∧ Below w.heap.size w w' := by
  have hu26 := Tryd.underlying26
  have hu49 := Tryd.underlying49
  have HB0 := Aside0.mk (Below.refl w.heap.size w)
  have BK0 := Aside0.mk (blk_alloc (blk_new w (.cells #[.string ⟨#[97]⟩, .string ⟨#[]⟩, .int .i64 2, .string ⟨#[]⟩, .string ⟨#[98]⟩, .int .i64 0] 49)) (.cells #[.int .i64 5, .slice none 0 0, .slice none 0 0, .slice (some ⟨w.heap.size, 0, none⟩) 2 2] 26))
  have BX0 := Aside0.mk (blk_new (w.alloc (.cells #[.string ⟨#[97]⟩, .string ⟨#[]⟩, .int .i64 2, .string ⟨#[]⟩, .string ⟨#[98]⟩, .int .i64 0] 49)) (.cells #[.int .i64 5, .slice none 0 0, .slice none 0 0, .slice (some ⟨w.heap.size, 0, none⟩) 2 2] 26))
  have hsz : (w.alloc (.cells #[.string ⟨#[97]⟩, .string ⟨#[]⟩, .int .i64 2, .string ⟨#[]⟩, .string ⟨#[98]⟩, .int .i64 0] 49)).heap.size = w.heap.size + 1 := by simp
  rw [hsz] at BX0
  clear hsz
  have HW0 := Aside0.mk (below_alloc (below_alloc HB0.out (.cells #[.string ⟨#[97]⟩, .string ⟨#[]⟩, .int .i64 2, .string ⟨#[]⟩, .string ⟨#[98]⟩, .int .i64 0] 49)) (.cells #[.int .i64 5, .slice none 0 0, .slice none 0 0, .slice (some ⟨w.heap.size, 0, none⟩) 2 2] 26))
  go_enter Tryd.func6, Tryd.ntmps6
  go_wp2_with fail
  refine (clocks_Cycles.calls 3 5 none 0 [] none 0 [] (some ⟨w.heap.size, 0, none⟩) 2 pths ⟨#[97]⟩ ⟨#[98]⟩ 2 _ (noC _ _) (by decide) (noC _ _) (by decide) (pths_row BK0.out) (by decide) cyc1).mono ?_
  rintro ev w1 ⟨rfl, hw⟩
  have HW1 := Aside0.mk (below_step HW0.out hw)
  have BK1 := Aside0.mk (blk_below BK0.out hw)
  have BX1 := Aside0.mk (blk_below BX0.out hw)
  clear hw HW0 BK0 BX0
  obtain ⟨g0, g1, g2, g3⟩ := cells4 BX1.out
  go_wp2_with fail
  refine (clocks_Cycles.calls 3 5 none 0 [] none 0 [] (some ⟨w.heap.size, 0, none⟩) 2 pths ⟨#[99]⟩ ⟨#[98]⟩ 0 _ (noC _ _) (by decide) (noC _ _) (by decide) (pths_row BK1.out) (by decide) cyc2).mono ?_
  rintro ev w2 ⟨rfl, hw⟩
  clear g0 g1 g2 g3
  have HW2 := Aside0.mk (below_step HW1.out hw)
  have BK2 := Aside0.mk (blk_below BK1.out hw)
  have BX2 := Aside0.mk (blk_below BX1.out hw)
  clear hw HW1 BK1 BX1
  obtain ⟨g0, g1, g2, g3⟩ := cells4 BX2.out
  go_wp2_with fail
  refine (clocks_Cycles.calls 3 5 none 0 [] none 0 [] (some ⟨w.heap.size, 0, none⟩) 2 pths ⟨#[99]⟩ ⟨#[100]⟩ 1 _ (noC _ _) (by decide) (noC _ _) (by decide) (pths_row BK2.out) (by decide) cyc3).mono ?_
  rintro ev w3 ⟨rfl, hw⟩
  clear g0 g1 g2 g3
  have HW3 := Aside0.mk (below_step HW2.out hw)
  have BK3 := Aside0.mk (blk_below BK2.out hw)
  have BX3 := Aside0.mk (blk_below BX2.out hw)
  clear hw HW2 BK2 BX2
  obtain ⟨g0, g1, g2, g3⟩ := cells4 BX3.out
  go_wp2_with fail
  refine (check_calls 5 none 0 [] none 0 [] (some ⟨w.heap.size, 0, none⟩) 2 pths _ (noC _ _) (by decide) (noC _ _) (by decide) (pths_row BK3.out) (by decide) ⟨fun x hx => absurd hx (by simp), fun x hx => absurd hx (by simp), fun x hx => ?_⟩ (.inr ⟨by decide, fun x hx => absurd hx (by simp), fun x hx => absurd hx (by simp), fun x hx => ?_⟩)).mono ?_
  · simp only [pths, List.mem_cons, List.not_mem_nil, or_false] at hx
    rcases hx with rfl | rfl <;> exact ⟨by decide, by decide⟩
  · simp only [pths, List.mem_cons, List.not_mem_nil, or_false] at hx
    rcases hx with rfl | rfl <;> decide
  rintro ev w4 ⟨rfl, hw⟩
  have HW4 := Aside0.mk (below_step HW3.out hw)
  clear hw HW3
  rw [chk0]
  go_wp2
  go_ret
  exact ⟨rfl, HW4.out⟩
end Go.Proofs.YtodgaaggmlgenaaDoor.PC
