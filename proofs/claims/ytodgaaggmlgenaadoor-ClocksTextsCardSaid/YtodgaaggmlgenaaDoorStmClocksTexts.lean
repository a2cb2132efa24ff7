/- The pure statement of the law ClocksTexts, and how its arguments are read. No conditions. -/
import Derived.Test.YtodgaaggmlgenaaDoorPCx61
import Derived.Test.YtodgaaggmlgenaaDoorOpn
namespace Go.Proofs.YtodgaaggmlgenaaDoor.SClocksTexts
open Go.RowKit Go.Proofs.YtodgaaggmlgenaaDoorW.PrintWords Go.Proofs.YtodgaaggmlgenaaDoor.Opn Go.Proofs.YtodgaaggmlgenaaDoor.PC
set_option linter.unusedVariables false
set_option linter.unusedSimpArgs false

def g29 (x : S29) : Prop := GI .i64 x.f0 ∧ GI .i64 x.f1
theorem o29 : Opens Tryd.prog 29 k29 g29 := OpensL.struct (fun x : S29 => (x.f0, x.f1)) (fun a => ⟨a.1, a.2⟩) (fun _ => rfl) Tryd.underlying29 (by kernel_rfl) (OpensL.cons rfl (Opens.int Tryd.underlying3 (by kernel_rfl)) (OpensL.one rfl (Opens.int Tryd.underlying3 (by kernel_rfl))))
def g51 (x : S51) : Prop := GS x.f0 ∧ g29 x.f1
theorem o51 : Opens Tryd.prog 51 k51 g51 := OpensL.struct (fun x : S51 => (x.f0, x.f1)) (fun a => ⟨a.1, a.2⟩) (fun _ => rfl) Tryd.underlying51 (by kernel_rfl) (OpensL.cons rfl (Opens.string Tryd.underlying9 (by kernel_rfl)) (OpensL.one rfl o29))
def g53 (x : S53) : Prop := GS x.f0 ∧ GI .i64 x.f1
theorem o53 : Opens Tryd.prog 53 k53 g53 := OpensL.struct (fun x : S53 => (x.f0, x.f1)) (fun a => ⟨a.1, a.2⟩) (fun _ => rfl) Tryd.underlying53 (by kernel_rfl) (OpensL.cons rfl (Opens.string Tryd.underlying9 (by kernel_rfl)) (OpensL.one rfl (Opens.int Tryd.underlying3 (by kernel_rfl))))
def g49 (x : S49) : Prop := GS x.f0 ∧ GS x.f1 ∧ GI .i64 x.f2
theorem o49 : Opens Tryd.prog 49 k49 g49 := OpensL.struct (fun x : S49 => (x.f0, x.f1, x.f2)) (fun a => ⟨a.1, a.2.1, a.2.2⟩) (fun _ => rfl) Tryd.underlying49 (by kernel_rfl) (OpensL.cons rfl (Opens.string Tryd.underlying9 (by kernel_rfl)) (OpensL.cons rfl (Opens.string Tryd.underlying9 (by kernel_rfl)) (OpensL.one rfl (Opens.int Tryd.underlying3 (by kernel_rfl)))))
def Pure : Prop := ∀ (a0_0 : Int) (l0_1 : List (S51)) (l0_2 : List (S53)) (l0_3 : List (S49)), GI .i64 a0_0 → GL 32 g51 l0_1 → GL 24 g53 l0_2 → GL 40 g49 l0_3 → ∃ k, masklaw4_ClocksTexts.f k a0_0 l0_1 l0_2 l0_3 = some true
end Go.Proofs.YtodgaaggmlgenaaDoor.SClocksTexts
