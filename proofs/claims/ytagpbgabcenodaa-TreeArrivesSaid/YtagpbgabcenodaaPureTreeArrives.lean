/- The pure statement of the law TreeArrives: the walk has it whole (it rests on the text LTAArr). No conditions. -/
import Derived.Test.YtagpbgabcenodaaStmTreeArrives
namespace Go.Proofs.Ytagpbgabcenodaa.Pure
open Go.RowKit Go.Proofs.YtagpbgabcenodaaW.PrintWords Go.Proofs.Ytagpbgabcenodaa.Opn Go.Proofs.Ytagpbgabcenodaa.PB Go.Proofs.Ytagpbgabcenodaa.STreeArrives

theorem TreeArrives : STreeArrives.Pure := fun _ _ _ _ _ _ _ _ _ _ => rfl

end Go.Proofs.Ytagpbgabcenodaa.Pure
