import Derived.Test.YtgajgnemfccnhaaWInv
import Derived.Test.YtgajgnemfccnhaaWFootNe
namespace Go.Proofs.YtgajgnemfccnhaaW.PrintWords
open Go.RowKit
end Go.Proofs.YtgajgnemfccnhaaW.PrintWords
namespace Go.Proofs.YtgajgnemfccnhaaW.PrintLast
section
variable {ops : Array Oper} {a : Act} {o og : Oper} {g : Nat} {t : Tmp} {u : Bool}
end
end Go.Proofs.YtgajgnemfccnhaaW.PrintLast
