-- PRINTED by print.py (a twelfth state) out of the translation. Not trusted: Lean checks it.
import Derived.Test.YtodgaaggmlgenaaDoorPCx0
import Derived.Test.YtodgaaggmlgenaaDoorPCw6
namespace Go.Proofs.YtodgaaggmlgenaaDoor.PC
open Go.RowKit Go.Proofs.YtodgaaggmlgenaaDoorW.PrintWords Go.Proofs.YtodgaaggmlgenaaDoorW.PrintLast Go.Proofs.YtodgaaggmlgenaaDoorW.PrintMore
attribute [local go_sem] max2_int min2_int max_two min_two max_three min_three max_four min_four   -- for this text's walks alone
set_option linter.unusedVariables false
set_option linter.unusedSimpArgs false

-- the contract of function 6 (maskwright/masklaw4.asks): written by hand
/-! ### masklaw4_asks: function 6 -/
def masklaw4_asks.f : Option Bool := some true
theorem masklaw4_asks.calls (r : Bool) (w : World) (h : masklaw4_asks.f = some r) :
    Calls Tryd.prog 6 #[] w fun e w' => e = .returned (.bool r) ∧ Below w.heap.size w w' := by
  obtain rfl := Option.some.inj h
  exact asks_calls w

end Go.Proofs.YtodgaaggmlgenaaDoor.PC
