import Derived.Test.YtlbljdjbcbgnlaaWInv
import Derived.Test.YtlbljdjbcbgnlaaWFootNe
namespace Go.Proofs.YtlbljdjbcbgnlaaW.PrintWords
open Go.RowKit
end Go.Proofs.YtlbljdjbcbgnlaaW.PrintWords
namespace Go.Proofs.YtlbljdjbcbgnlaaW.PrintLast
section
variable {ops : Array Oper} {a : Act} {o og : Oper} {g : Nat} {t : Tmp} {u : Bool}
end
end Go.Proofs.YtlbljdjbcbgnlaaW.PrintLast
