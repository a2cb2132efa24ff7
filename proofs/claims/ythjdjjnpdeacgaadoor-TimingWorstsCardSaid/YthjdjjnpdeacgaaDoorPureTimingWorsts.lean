/- The pure statement of the law TimingWorsts: proved with the walk. No conditions. -/
import Derived.Test.YthjdjjnpdeacgaaDoorStmTimingWorsts
namespace Go.Proofs.YthjdjjnpdeacgaaDoor.Pure
open Go.RowKit Go.Proofs.YthjdjjnpdeacgaaDoorW.PrintWords Go.Proofs.YthjdjjnpdeacgaaDoor.Opn Go.Proofs.YthjdjjnpdeacgaaDoor.PT Go.Proofs.YthjdjjnpdeacgaaDoor.STimingWorsts
set_option linter.unusedVariables false

theorem TimingWorsts : STimingWorsts.Pure := by
  intro l0 h0
  rfl
end Go.Proofs.YthjdjjnpdeacgaaDoor.Pure
