/- The pure statement of the law TimingWorsts, and how its arguments are read. No conditions. -/
import Derived.Test.YthjdjjnpdeacgaaDoorPTx70
import Derived.Test.YthjdjjnpdeacgaaDoorOpn
namespace Go.Proofs.YthjdjjnpdeacgaaDoor.STimingWorsts
open Go.RowKit Go.Proofs.YthjdjjnpdeacgaaDoorW.PrintWords Go.Proofs.YthjdjjnpdeacgaaDoor.Opn Go.Proofs.YthjdjjnpdeacgaaDoor.PT
set_option linter.unusedVariables false
set_option linter.unusedSimpArgs false

def g25 (x : S25) : Prop := GB x.f0 ∧ GI .i64 x.f1 ∧ GI .i64 x.f2
theorem o25 : Opens Tryd.prog 25 k25 g25 := OpensL.struct (fun x : S25 => (x.f0, x.f1, x.f2)) (fun a => ⟨a.1, a.2.1, a.2.2⟩) (fun _ => rfl) Tryd.underlying25 (by kernel_rfl) (OpensL.cons rfl (Opens.bool Tryd.underlying4 (by kernel_rfl)) (OpensL.cons rfl (Opens.int Tryd.underlying3 (by kernel_rfl)) (OpensL.one rfl (Opens.int Tryd.underlying3 (by kernel_rfl)))))
def g27 (x : S27) : Prop := GI .i64 x.f0 ∧ GI .i64 x.f1 ∧ g25 x.f2 ∧ g25 x.f3
theorem o27 : Opens Tryd.prog 27 k27 g27 := OpensL.struct (fun x : S27 => (x.f0, x.f1, x.f2, x.f3)) (fun a => ⟨a.1, a.2.1, a.2.2.1, a.2.2.2⟩) (fun _ => rfl) Tryd.underlying27 (by kernel_rfl) (OpensL.cons rfl (Opens.int Tryd.underlying3 (by kernel_rfl)) (OpensL.cons rfl (Opens.int Tryd.underlying3 (by kernel_rfl)) (OpensL.cons rfl o25 (OpensL.one rfl o25))))
def Pure : Prop := ∀ (l0 : List (S27)), GL 64 g27 l0 → masklaw4_TimingWorsts.f l0 = some true
end Go.Proofs.YthjdjjnpdeacgaaDoor.STimingWorsts
