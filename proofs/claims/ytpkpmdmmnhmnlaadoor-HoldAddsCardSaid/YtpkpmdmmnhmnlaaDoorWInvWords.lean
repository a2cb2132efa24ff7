import Derived.Test.YtpkpmdmmnhmnlaaDoorWInv
import Derived.Test.YtpkpmdmmnhmnlaaDoorWFootNe
namespace Go.Proofs.YtpkpmdmmnhmnlaaDoorW.PrintWords
open Go.RowKit
end Go.Proofs.YtpkpmdmmnhmnlaaDoorW.PrintWords
namespace Go.Proofs.YtpkpmdmmnhmnlaaDoorW.PrintLast
section
variable {ops : Array Oper} {a : Act} {o og : Oper} {g : Nat} {t : Tmp} {u : Bool}
end
end Go.Proofs.YtpkpmdmmnhmnlaaDoorW.PrintLast
