import Derived.Test.YtlegjcagkmjfjaaDoorWInv
import Derived.Test.YtlegjcagkmjfjaaDoorWFootNe
namespace Go.Proofs.YtlegjcagkmjfjaaDoorW.PrintWords
open Go.RowKit
end Go.Proofs.YtlegjcagkmjfjaaDoorW.PrintWords
namespace Go.Proofs.YtlegjcagkmjfjaaDoorW.PrintLast
section
variable {ops : Array Oper} {a : Act} {o og : Oper} {g : Nat} {t : Tmp} {u : Bool}
end
end Go.Proofs.YtlegjcagkmjfjaaDoorW.PrintLast
