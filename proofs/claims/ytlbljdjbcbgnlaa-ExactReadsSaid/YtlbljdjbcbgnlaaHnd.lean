/- Small lemmas for contracts that are written by hand: blocks, rows that lie in them, loops' counters. No conditions. -/
import Derived.Test.YtlbljdjbcbgnlaaWMore
import Derived.WalkKit
import Derived.Lib.SliceRun
import Derived.Lib.SlBytesConst
set_option linter.unusedVariables false
namespace Go.Proofs.Ytlbljdjbcbgnlaa.Hnd
open Go.RowKit Go.Proofs.YtlbljdjbcbgnlaaW.PrintWords
theorem add0 (g i : Nat) : (⟨g, 0, none⟩ : Addr).add i = ⟨g, i, none⟩ := by
  unfold Addr.add
  split
  · rename_i h
    rw [h]
  · simp
/-- A row that is a whole block. -/
theorem rowC {α : Type} {d : Kd α} {w : World} {g T : Nat} {cells : Array Value} {xs : List α} (B : w.heap[g]? = some (.cells cells T (0, 0))) (hrep : Reps (d.K w) d.sz xs cells.toList) (hm : xs.length ≤ 9223372036854775807) : Kd.C d w (some ⟨g, 0, none⟩) xs.length xs := by
  refine ⟨rfl, hm, fun _ => ⟨_, rfl, fun j p hj => ?_⟩⟩
  have hr := hrep.2 j p hj
  refine ⟨_, d.K_len hr, hr, fun i u hu => ?_⟩
  rw [add0, blk_cell B]
  have hi : i < d.sz := by
    have := (List.getElem?_eq_some_iff.1 hu).1
    rw [d.K_len hr] at this
    exact this
  rw [List.getElem?_take_of_lt hi, List.getElem?_drop] at hu
  simpa using hu
theorem rowI {w : World} {g T : Nat} {k : IntKind} {cells : Array Value} (xs : List Int) (B : w.heap[g]? = some (.cells cells T (0, 0))) (hc : cells.toList = xs.map (Value.int k)) (hm : xs.length ≤ 9223372036854775807) : Kd.C (Kd.int k) w (some ⟨g, 0, none⟩) xs.length xs :=
  rowC (d := Kd.int k) B (by rw [hc]; exact Kd.reps_scalar xs) hm
theorem blk_new1 (w : World) (o o' : Obj) : ((w.alloc o).alloc o').heap[w.heap.size + 1]? = some o' := by
  have := blk_new (w.alloc o) o'
  simpa using this
theorem blk_new2 (w : World) (o o' o'' : Obj) : (((w.alloc o).alloc o').alloc o'').heap[w.heap.size + 2]? = some o'' := by
  have := blk_new ((w.alloc o).alloc o') o''
  simpa using this
end Go.Proofs.Ytlbljdjbcbgnlaa.Hnd
