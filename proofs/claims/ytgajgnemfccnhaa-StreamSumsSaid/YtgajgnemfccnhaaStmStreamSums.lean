/- The pure statement of the law StreamSums, and how its arguments are read. No conditions. -/
import Derived.Test.YtgajgnemfccnhaaPSx18
import Derived.Test.YtgajgnemfccnhaaOpn
namespace Go.Proofs.Ytgajgnemfccnhaa.SStreamSums
open Go.RowKit Go.Proofs.YtgajgnemfccnhaaW.PrintWords Go.Proofs.Ytgajgnemfccnhaa.Opn Go.Proofs.Ytgajgnemfccnhaa.PS
set_option linter.unusedVariables false
set_option linter.unusedSimpArgs false

def Pure : Prop := ∀ (l0 : List Int), GL 1 (GI .u8) l0 → ∃ k, masklaw4_StreamSums.f k l0 = some true
end Go.Proofs.Ytgajgnemfccnhaa.SStreamSums
