/- Small lemmas for contracts that are written by hand: blocks, rows that lie in them, loops' counters. No conditions. -/
import Derived.Test.YtlegjcagkmjfjaaDoorWMore
import Derived.WalkKit
import Derived.Lib.SliceRun
import Derived.Lib.SlBytesConst
set_option linter.unusedVariables false
namespace Go.Proofs.YtlegjcagkmjfjaaDoor.Hnd
open Go.RowKit Go.Proofs.YtlegjcagkmjfjaaDoorW.PrintWords
theorem add0 (g i : Nat) : (⟨g, 0, none⟩ : Addr).add i = ⟨g, i, none⟩ := by
  unfold Addr.add
  split
  · rename_i h
    rw [h]
  · simp
/-- A row that came in is nil only if it is empty. -/
theorem nilC {α : Type} {d : Kd α} {w : World} {n : Nat} {xs : List α} (h : Kd.C d w none n xs) : xs = [] := by
  rcases xs with _ | ⟨x, xs⟩
  · rfl
  · obtain ⟨ad, e, _⟩ := h.2.2 (by have := h.1; simp at this; omega)
    cases e
theorem litR {α : Type} (d : Kd α) (e : Nat) (W : World) (base : Nat) (hb : base ≤ W.heap.size) : Kd.R d e (W.alloc (.cells #[] e)) base (fun _ => True) (.slice (some ⟨W.heap.size, 0, none⟩) 0 0) [] :=
  ⟨fun _ _ => trivial, OwnRow.lit (ps := []) (inner := []) W base (Reps.none _ _) hb (by simp)⟩
end Go.Proofs.YtlegjcagkmjfjaaDoor.Hnd
