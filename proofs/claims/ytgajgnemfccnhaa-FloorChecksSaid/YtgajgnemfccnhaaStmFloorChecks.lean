/- The pure statement of the law FloorChecks, and how its arguments are read. No conditions. -/
import Derived.Test.YtgajgnemfccnhaaPAx45
import Derived.Test.YtgajgnemfccnhaaOpn
namespace Go.Proofs.Ytgajgnemfccnhaa.SFloorChecks
open Go.RowKit Go.Proofs.YtgajgnemfccnhaaW.PrintWords Go.Proofs.Ytgajgnemfccnhaa.Opn Go.Proofs.Ytgajgnemfccnhaa.PA
set_option linter.unusedVariables false
set_option linter.unusedSimpArgs false

def g98 (x : S98) : Prop := GI .i64 x.f0 ∧ GI .i64 x.f1 ∧ GI .i64 x.f2
theorem o98 : Opens Try.prog 98 k98 g98 := OpensL.struct (fun x : S98 => (x.f0, x.f1, x.f2)) (fun a => ⟨a.1, a.2.1, a.2.2⟩) (fun _ => rfl) Try.underlying98 (by kernel_rfl) (OpensL.cons rfl (Opens.int Try.underlying3 (by kernel_rfl)) (OpensL.cons rfl (Opens.int Try.underlying3 (by kernel_rfl)) (OpensL.one rfl (Opens.int Try.underlying3 (by kernel_rfl)))))
def g100 (x : S100) : Prop := GI .i64 x.f0 ∧ GI .i64 x.f1 ∧ GI .i64 x.f2 ∧ GI .i64 x.f3 ∧ GI .i64 x.f4
theorem o100 : Opens Try.prog 100 k100 g100 := OpensL.struct (fun x : S100 => (x.f0, x.f1, x.f2, x.f3, x.f4)) (fun a => ⟨a.1, a.2.1, a.2.2.1, a.2.2.2.1, a.2.2.2.2⟩) (fun _ => rfl) Try.underlying100 (by kernel_rfl) (OpensL.cons rfl (Opens.int Try.underlying3 (by kernel_rfl)) (OpensL.cons rfl (Opens.int Try.underlying3 (by kernel_rfl)) (OpensL.cons rfl (Opens.int Try.underlying3 (by kernel_rfl)) (OpensL.cons rfl (Opens.int Try.underlying3 (by kernel_rfl)) (OpensL.one rfl (Opens.int Try.underlying3 (by kernel_rfl)))))))
def g96 (x : S96) : Prop := GS x.f0 ∧ GB x.f1 ∧ GI .i64 x.f2 ∧ GI .i64 x.f3
theorem o96 : Opens Try.prog 96 k96 g96 := OpensL.struct (fun x : S96 => (x.f0, x.f1, x.f2, x.f3)) (fun a => ⟨a.1, a.2.1, a.2.2.1, a.2.2.2⟩) (fun _ => rfl) Try.underlying96 (by kernel_rfl) (OpensL.cons rfl (Opens.string Try.underlying9 (by kernel_rfl)) (OpensL.cons rfl (Opens.bool Try.underlying4 (by kernel_rfl)) (OpensL.cons rfl (Opens.int Try.underlying3 (by kernel_rfl)) (OpensL.one rfl (Opens.int Try.underlying3 (by kernel_rfl))))))
def Pure : Prop := ∀ (a0_0 : Int) (a0_1 : Int) (a0_2 : Int) (l0_3 : List (S98)) (l0_4 : List (S100)) (l0_5 : List (S96)) (a1 : Int) (a2 : ByteArray) (a3 : Bool), GI .i64 a0_0 → GI .i64 a0_1 → GI .i64 a0_2 → GL 24 g98 l0_3 → GL 40 g100 l0_4 → GL 40 g96 l0_5 → GI .i64 a1 → GS a2 → ∃ k, masklaw4_FloorChecks.f k a0_0 a0_1 a0_2 l0_3 l0_4 l0_5 a1 a2 a3 = some true
end Go.Proofs.Ytgajgnemfccnhaa.SFloorChecks
