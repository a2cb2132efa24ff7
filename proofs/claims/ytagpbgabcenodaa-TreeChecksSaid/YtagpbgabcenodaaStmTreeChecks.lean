/- The pure statement of the law TreeChecks, and how its arguments are read. No conditions. -/
import Derived.Test.YtagpbgabcenodaaPBx22
import Derived.Test.YtagpbgabcenodaaOpn
namespace Go.Proofs.Ytagpbgabcenodaa.STreeChecks
open Go.RowKit Go.Proofs.YtagpbgabcenodaaW.PrintWords Go.Proofs.Ytagpbgabcenodaa.Opn Go.Proofs.Ytagpbgabcenodaa.PB
set_option linter.unusedVariables false
set_option linter.unusedSimpArgs false

def g32 (x : S32) : Prop := GS x.f0 ∧ GB x.f1 ∧ GI .i64 x.f2 ∧ GI .u64 x.f3 ∧ GI .i64 x.f4 ∧ GL 8 (GI .i64) x.f5 ∧ GL 8 (GI .i64) x.f6 ∧ GL 8 (GI .i64) x.f7 ∧ GI .i64 x.f8 ∧ GI .i64 x.f9 ∧ GI .i64 x.f10
theorem o32 : Opens Try.prog 32 k32 g32 := OpensL.struct (fun x : S32 => (x.f0, x.f1, x.f2, x.f3, x.f4, x.f5, x.f6, x.f7, x.f8, x.f9, x.f10)) (fun a => ⟨a.1, a.2.1, a.2.2.1, a.2.2.2.1, a.2.2.2.2.1, a.2.2.2.2.2.1, a.2.2.2.2.2.2.1, a.2.2.2.2.2.2.2.1, a.2.2.2.2.2.2.2.2.1, a.2.2.2.2.2.2.2.2.2.1, a.2.2.2.2.2.2.2.2.2.2⟩) (fun _ => rfl) Try.underlying32 (by kernel_rfl) (OpensL.cons rfl (Opens.string Try.underlying9 (by kernel_rfl)) (OpensL.cons rfl (Opens.bool Try.underlying4 (by kernel_rfl)) (OpensL.cons rfl (Opens.int Try.underlying3 (by kernel_rfl)) (OpensL.cons rfl (Opens.int Try.underlying30 (by kernel_rfl)) (OpensL.cons rfl (Opens.int Try.underlying3 (by kernel_rfl)) (OpensL.cons rfl (Opens.slice Try.underlying22 (by kernel_rfl) (by kernel_rfl) (Opens.int Try.underlying3 (by kernel_rfl))) (OpensL.cons rfl (Opens.slice Try.underlying22 (by kernel_rfl) (by kernel_rfl) (Opens.int Try.underlying3 (by kernel_rfl))) (OpensL.cons rfl (Opens.slice Try.underlying22 (by kernel_rfl) (by kernel_rfl) (Opens.int Try.underlying3 (by kernel_rfl))) (OpensL.cons rfl (Opens.int Try.underlying3 (by kernel_rfl)) (OpensL.cons rfl (Opens.int Try.underlying3 (by kernel_rfl)) (OpensL.one rfl (Opens.int Try.underlying3 (by kernel_rfl)))))))))))))
def Pure : Prop := ∀ (a0_0 : Int) (l0_1 : List Int) (l0_2 : List Int) (a1 : Int) (l2 : List (S32)) (a3 : Int) (a4 : Int), GI .i64 a0_0 → GL 8 (GI .i64) l0_1 → GL 8 (GI .i64) l0_2 → GI .i64 a1 → GL 144 g32 l2 → GI .i64 a3 → GI .i64 a4 → ∃ k, masklaw4_TreeChecks.f k a0_0 l0_1 l0_2 a1 l2 a3 a4 = some true
end Go.Proofs.Ytagpbgabcenodaa.STreeChecks
