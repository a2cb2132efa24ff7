/- The pure statement of the law LegalRows, and how its arguments are read. No conditions. -/
import Derived.Test.YtgajgnemfccnhaaPLx26
import Derived.Test.YtgajgnemfccnhaaOpn
namespace Go.Proofs.Ytgajgnemfccnhaa.SLegalRows
open Go.RowKit Go.Proofs.YtgajgnemfccnhaaW.PrintWords Go.Proofs.Ytgajgnemfccnhaa.Opn Go.Proofs.Ytgajgnemfccnhaa.PL
set_option linter.unusedVariables false
set_option linter.unusedSimpArgs false

def Pure : Prop := ∀ (l0 : List Int) (l1 : List Int) (a2_0 : Int) (a2_1 : Int), GL 8 (GI .i64) l0 → GL 8 (GI .i64) l1 → GI .i64 a2_0 → GI .i64 a2_1 → ∃ k, masklaw4_LegalRows.f k l0 l1 a2_0 a2_1 = some true
end Go.Proofs.Ytgajgnemfccnhaa.SLegalRows
