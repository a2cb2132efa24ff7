import Derived.Test.YtagpbgabcenodaaWInv
import Derived.Test.YtagpbgabcenodaaWFootNe
namespace Go.Proofs.YtagpbgabcenodaaW.PrintWords
open Go.RowKit
end Go.Proofs.YtagpbgabcenodaaW.PrintWords
namespace Go.Proofs.YtagpbgabcenodaaW.PrintLast
section
variable {ops : Array Oper} {a : Act} {o og : Oper} {g : Nat} {t : Tmp} {u : Bool}
end
end Go.Proofs.YtagpbgabcenodaaW.PrintLast
