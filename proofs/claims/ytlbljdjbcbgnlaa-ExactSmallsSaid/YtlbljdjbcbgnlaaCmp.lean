/- Short words for what the printed walks say over and over: facts carried along a walk. No conditions. -/
import Derived.Test.YtlbljdjbcbgnlaaWWords
import Derived.Test.YtlbljdjbcbgnlaaWLast
import Derived.Test.YtlbljdjbcbgnlaaWMore
set_option linter.unusedVariables false
namespace Go.Proofs.Ytlbljdjbcbgnlaa.PX
open Go.RowKit Go.Proofs.YtlbljdjbcbgnlaaW.PrintWords Go.Proofs.YtlbljdjbcbgnlaaW.PrintLast Go.Proofs.YtlbljdjbcbgnlaaW.PrintMore
theorem bl {p : Prop} (h : p := by repeat (first | (with_reducible first | exact HB.out | apply below_alloc | apply pw_below_drewN | apply below_drew1 | refine below_set ?_ (Aside0.out (by with_reducible assumption))) | exact HB.out)) : p := h
theorem bk {w w1 : World} {g : Nat} {o : Obj} (h : w.heap[g]? = some o) (k : w.heap[g]? = some o → w1.heap[g]? = some o := by intro h; (with_reducible repeat (first | refine blk_drewN ?_ _ | refine blk_drew ?_ | refine blk_alloc ?_ _)); exact h) : w1.heap[g]? = some o := k h
theorem bb {w w1 w2 : World} {g : Nat} {o : Obj} (h : w.heap[g]? = some o) (hb : Below w1.heap.size w1 w2) (k : w.heap[g]? = some o → w1.heap[g]? = some o := by intro h; (with_reducible repeat (first | refine blk_drewN ?_ _ | refine blk_drew ?_ | refine blk_alloc ?_ _)); exact h) : w2.heap[g]? = some o := blk_below (k h) hb
theorem bf {w w1 : World} {g : Nat} {o : Obj} (h : w.heap[g]? = some o) (k : w.heap[g]? = some o → w1.heap[g]? = some o := by intro h; (with_reducible repeat (first | refine blk_drewN ?_ _ | refine blk_drew ?_ | refine blk_alloc ?_ _ | refine blk_far ?_ (Aside0.out (by with_reducible assumption)) _)); exact h) : w1.heap[g]? = some o := k h
theorem nl {w1 : World} {g g' : Nat} {o : Obj} (hg : g' = w1.heap.size) (h : w1.heap[g]? = some o) : g ≠ g' := by rw [hg]; exact Nat.ne_of_lt (blk_lt h)
theorem ng {w1 : World} {g g' : Nat} {o : Obj} (hg : g' = w1.heap.size) (h : w1.heap[g]? = some o) : g' ≠ g := by rw [hg]; exact Nat.ne_of_gt (blk_lt h)
theorem ge {w w1 : World} {g : Nat} (hg : g = w1.heap.size) (k : Below w.heap.size w w1 := by repeat (first | (with_reducible first | exact HB.out | apply below_alloc | apply pw_below_drewN | apply below_drew1 | refine below_set ?_ (Aside0.out (by with_reducible assumption))) | exact HB.out)) : w.heap.size ≤ g := by rw [hg]; exact below_size k
theorem hc {w w1 : World} {a : Addr} {v : Value} (h : Below w.heap.size w w1) (k : w.cell? a = some v) : w1.cell? a = some v := (h.cell (World.block_lt_of_cell? w _ k)).trans k
theorem kc {α : Type} {K : Kd α} {w w1 : World} {A : Option Addr} {n : Nat} {l : List α} (h : Kd.C K w A n l) (k : Kd.C K w A n l → Kd.C K w1 A n l := by intro h; repeat (first | exact h | (with_reducible refine Kd.C_alloc ?_ _) | (with_reducible refine Kd.C_drewN ?_ _) | (with_reducible refine Kd.C_drew ?_))) : Kd.C K w1 A n l := k h
theorem rb {α : Type} {K : Kd α} {e : TypeId} {w w1 w2 : World} {base : Nat} {ok : Nat → Prop} {v : Value} {xs : List α} (h : Kd.R K e w base ok v xs) (hb : Below w1.heap.size w1 w2) (k : Kd.R K e w base ok v xs → Kd.R K e w1 base ok v xs := by intro h; (with_reducible repeat (first | apply Kd.R_alloc | apply Kd.R_drewN | apply Kd.R_drew)); exact h) : Kd.R K e w2 base ok v xs := Kd.R_below (k h) hb
theorem vb {α : Type} {K : Kd α} {e : TypeId} {w w1 w2 : World} {base : Nat} {ok : Nat → Prop} {v : Value} {xs : List α} (h : Kd.V K e w base ok v xs) (hb : Below w1.heap.size w1 w2) (k : Kd.V K e w base ok v xs → Kd.V K e w1 base ok v xs := by intro h; (with_reducible repeat (first | apply Kd.V_alloc | apply Kd.V_drewN | apply Kd.V_drew)); exact h) : Kd.V K e w2 base ok v xs := Kd.V_below (k h) hb
section
variable {w : World} {g : Nat} {t : TypeId} {cs : List Value} {a0 a1 a2 a3 a4 a5 a6 a7 a8 a9 a10 a11 a12 a13 a14 : Value}
theorem bz2 (h : w.heap[g]? = some (.cells (a0 :: a1 :: cs).toArray t (0, 0))) : w.cell? ⟨g, 0, none⟩ = some a0 ∧ w.cell? ⟨g, 1, none⟩ = some a1 ∧ w.frozen? ⟨g, 0, none⟩ = false ∧ w.frozen? ⟨g, 1, none⟩ = false := ⟨(blk_cell h 0).trans rfl, (blk_cell h 1).trans rfl, blk_frozen h 0, blk_frozen h 1⟩
end
end Go.Proofs.Ytlbljdjbcbgnlaa.PX
