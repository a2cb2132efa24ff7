/- The pure statement of the law DelayChecks, and how its arguments are read. No conditions. -/
import Derived.Test.YtgajgnemfccnhaaPDelayChecksx6
import Derived.Test.YtgajgnemfccnhaaOpn
namespace Go.Proofs.Ytgajgnemfccnhaa.SDelayChecks
open Go.RowKit Go.Proofs.YtgajgnemfccnhaaW.PrintWords Go.Proofs.Ytgajgnemfccnhaa.Opn Go.Proofs.Ytgajgnemfccnhaa.PDelayChecks
set_option linter.unusedVariables false
set_option linter.unusedSimpArgs false

def g86 (x : S86) : Prop := GS x.f0 ∧ GI .i64 x.f1 ∧ GI .i64 x.f2 ∧ GI .i64 x.f3 ∧ GB x.f4
theorem o86 : Opens Try.prog 86 k86 g86 := OpensL.struct (fun x : S86 => (x.f0, x.f1, x.f2, x.f3, x.f4)) (fun a => ⟨a.1, a.2.1, a.2.2.1, a.2.2.2.1, a.2.2.2.2⟩) (fun _ => rfl) Try.underlying86 (by kernel_rfl) (OpensL.cons rfl (Opens.string Try.underlying9 (by kernel_rfl)) (OpensL.cons rfl (Opens.int Try.underlying3 (by kernel_rfl)) (OpensL.cons rfl (Opens.int Try.underlying3 (by kernel_rfl)) (OpensL.cons rfl (Opens.int Try.underlying3 (by kernel_rfl)) (OpensL.one rfl (Opens.bool Try.underlying4 (by kernel_rfl)))))))
def g88 (x : S88) : Prop := GI .i64 x.f0 ∧ GI .u64 x.f1 ∧ GL 8 (GI .i64) x.f2
theorem o88 : Opens Try.prog 88 k88 g88 := OpensL.struct (fun x : S88 => (x.f0, x.f1, x.f2)) (fun a => ⟨a.1, a.2.1, a.2.2⟩) (fun _ => rfl) Try.underlying88 (by kernel_rfl) (OpensL.cons rfl (Opens.int Try.underlying3 (by kernel_rfl)) (OpensL.cons rfl (Opens.int Try.underlying43 (by kernel_rfl)) (OpensL.one rfl (Opens.slice Try.underlying25 (by kernel_rfl) (by kernel_rfl) (Opens.int Try.underlying3 (by kernel_rfl))))))
def g38 (x : S38) : Prop := GI .i64 x.f0 ∧ GI .i64 x.f1
theorem o38 : Opens Try.prog 38 k38 g38 := OpensL.struct (fun x : S38 => (x.f0, x.f1)) (fun a => ⟨a.1, a.2⟩) (fun _ => rfl) Try.underlying38 (by kernel_rfl) (OpensL.cons rfl (Opens.int Try.underlying3 (by kernel_rfl)) (OpensL.one rfl (Opens.int Try.underlying3 (by kernel_rfl))))
def Pure : Prop := ∀ (l0_0 : List ByteArray) (l0_1 : List ByteArray) (l0_2 : List (S86)) (l0_3 : List (S88)) (l0_4 : List Int) (l1_0 : List (List (S38))) (l1_1 : List (List (S38))) (l1_2 : List (S38)) (l1_3 : List (S38)) (l1_4 : List (S38)), GL 16 GS l0_0 → GL 16 GS l0_1 → GL 48 g86 l0_2 → GL 40 g88 l0_3 → GL 8 (GI .i64) l0_4 → GL 24 (GL 16 g38) l1_0 → GL 24 (GL 16 g38) l1_1 → GL 16 g38 l1_2 → GL 16 g38 l1_3 → GL 16 g38 l1_4 → ∃ k, masklaw4_DelayChecks.f k l0_0 l0_1 l0_2 l0_3 l0_4 l1_0 l1_1 l1_2 l1_3 l1_4 = some true
end Go.Proofs.Ytgajgnemfccnhaa.SDelayChecks
