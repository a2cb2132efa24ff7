/- The pure statement of the law LegalChecks, and how its arguments are read. No conditions. -/
import Derived.Test.YtgajgnemfccnhaaPLx23
import Derived.Test.YtgajgnemfccnhaaOpn
namespace Go.Proofs.Ytgajgnemfccnhaa.SLegalChecks
open Go.RowKit Go.Proofs.YtgajgnemfccnhaaW.PrintWords Go.Proofs.Ytgajgnemfccnhaa.Opn Go.Proofs.Ytgajgnemfccnhaa.PL
set_option linter.unusedVariables false
set_option linter.unusedSimpArgs false

def g98 (x : S98) : Prop := GI .i64 x.f0 ∧ GI .i64 x.f1 ∧ GI .i64 x.f2
theorem o98 : Opens Try.prog 98 k98 g98 := OpensL.struct (fun x : S98 => (x.f0, x.f1, x.f2)) (fun a => ⟨a.1, a.2.1, a.2.2⟩) (fun _ => rfl) Try.underlying98 (by kernel_rfl) (OpensL.cons rfl (Opens.int Try.underlying3 (by kernel_rfl)) (OpensL.cons rfl (Opens.int Try.underlying3 (by kernel_rfl)) (OpensL.one rfl (Opens.int Try.underlying3 (by kernel_rfl)))))
def g100 (x : S100) : Prop := GI .i64 x.f0 ∧ GI .i64 x.f1 ∧ GI .i64 x.f2 ∧ GI .i64 x.f3 ∧ GI .i64 x.f4
theorem o100 : Opens Try.prog 100 k100 g100 := OpensL.struct (fun x : S100 => (x.f0, x.f1, x.f2, x.f3, x.f4)) (fun a => ⟨a.1, a.2.1, a.2.2.1, a.2.2.2.1, a.2.2.2.2⟩) (fun _ => rfl) Try.underlying100 (by kernel_rfl) (OpensL.cons rfl (Opens.int Try.underlying3 (by kernel_rfl)) (OpensL.cons rfl (Opens.int Try.underlying3 (by kernel_rfl)) (OpensL.cons rfl (Opens.int Try.underlying3 (by kernel_rfl)) (OpensL.cons rfl (Opens.int Try.underlying3 (by kernel_rfl)) (OpensL.one rfl (Opens.int Try.underlying3 (by kernel_rfl)))))))
def g96 (x : S96) : Prop := GS x.f0 ∧ GB x.f1 ∧ GI .i64 x.f2 ∧ GI .i64 x.f3
theorem o96 : Opens Try.prog 96 k96 g96 := OpensL.struct (fun x : S96 => (x.f0, x.f1, x.f2, x.f3)) (fun a => ⟨a.1, a.2.1, a.2.2.1, a.2.2.2⟩) (fun _ => rfl) Try.underlying96 (by kernel_rfl) (OpensL.cons rfl (Opens.string Try.underlying9 (by kernel_rfl)) (OpensL.cons rfl (Opens.bool Try.underlying4 (by kernel_rfl)) (OpensL.cons rfl (Opens.int Try.underlying3 (by kernel_rfl)) (OpensL.one rfl (Opens.int Try.underlying3 (by kernel_rfl))))))
def g47 (x : S47) : Prop := GI .i64 x.f0 ∧ GI .i64 x.f1
theorem o47 : Opens Try.prog 47 k47 g47 := OpensL.struct (fun x : S47 => (x.f0, x.f1)) (fun a => ⟨a.1, a.2⟩) (fun _ => rfl) Try.underlying47 (by kernel_rfl) (OpensL.cons rfl (Opens.int Try.underlying3 (by kernel_rfl)) (OpensL.one rfl (Opens.int Try.underlying3 (by kernel_rfl))))
def Pure : Prop := ∀ (a0_0 : Int) (a0_1 : Int) (a0_2 : Int) (l0_3 : List (S98)) (l0_4 : List (S100)) (l0_5 : List (S96)) (l1 : List Int) (l2 : List (S47)), GI .i64 a0_0 → GI .i64 a0_1 → GI .i64 a0_2 → GL 24 g98 l0_3 → GL 40 g100 l0_4 → GL 40 g96 l0_5 → GL 8 (GI .i64) l1 → GL 16 g47 l2 → ∃ k, masklaw4_LegalChecks.f k a0_0 a0_1 a0_2 l0_3 l0_4 l0_5 l1 l2 = some true
end Go.Proofs.Ytgajgnemfccnhaa.SLegalChecks
