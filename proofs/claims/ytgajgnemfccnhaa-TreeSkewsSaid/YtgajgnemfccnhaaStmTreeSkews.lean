/- The pure statement of the law TreeSkews, and how its arguments are read. No conditions. -/
import Derived.Test.YtgajgnemfccnhaaPTx8
import Derived.Test.YtgajgnemfccnhaaOpn
namespace Go.Proofs.Ytgajgnemfccnhaa.STreeSkews
open Go.RowKit Go.Proofs.YtgajgnemfccnhaaW.PrintWords Go.Proofs.Ytgajgnemfccnhaa.Opn Go.Proofs.Ytgajgnemfccnhaa.PT
set_option linter.unusedVariables false
set_option linter.unusedSimpArgs false

def g38 (x : S38) : Prop := GI .i64 x.f0 ∧ GI .i64 x.f1
theorem o38 : Opens Try.prog 38 k38 g38 := OpensL.struct (fun x : S38 => (x.f0, x.f1)) (fun a => ⟨a.1, a.2⟩) (fun _ => rfl) Try.underlying38 (by kernel_rfl) (OpensL.cons rfl (Opens.int Try.underlying3 (by kernel_rfl)) (OpensL.one rfl (Opens.int Try.underlying3 (by kernel_rfl))))
def Pure : Prop := ∀ (l0 : List (S38)), GL 16 g38 l0 → masklaw4_TreeSkews.f l0 = some true
end Go.Proofs.Ytgajgnemfccnhaa.STreeSkews
