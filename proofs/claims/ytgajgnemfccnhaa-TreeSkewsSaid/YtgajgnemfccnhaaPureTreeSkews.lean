/- The pure statement of the law TreeSkews, proved: the contract has it already. No conditions. -/
import Derived.Test.YtgajgnemfccnhaaStmTreeSkews
namespace Go.Proofs.Ytgajgnemfccnhaa.Pure
open Go.RowKit Go.Proofs.YtgajgnemfccnhaaW.PrintWords Go.Proofs.Ytgajgnemfccnhaa.Opn Go.Proofs.Ytgajgnemfccnhaa.PT Go.Proofs.Ytgajgnemfccnhaa.STreeSkews

theorem TreeSkews : STreeSkews.Pure := fun _ _ => rfl

end Go.Proofs.Ytgajgnemfccnhaa.Pure
