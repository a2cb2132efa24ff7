/- The pure statement of the law TreeArrives, and how its arguments are read. No conditions. -/
import Derived.Test.YtagpbgabcenodaaPBx90
import Derived.Test.YtagpbgabcenodaaOpn
namespace Go.Proofs.Ytagpbgabcenodaa.STreeArrives
open Go.RowKit Go.Proofs.YtagpbgabcenodaaW.PrintWords Go.Proofs.Ytagpbgabcenodaa.Opn Go.Proofs.Ytagpbgabcenodaa.PB
set_option linter.unusedVariables false
set_option linter.unusedSimpArgs false

def g32 (x : S32) : Prop := GS x.f0 ∧ GB x.f1 ∧ GI .i64 x.f2 ∧ GI .u64 x.f3 ∧ GI .i64 x.f4 ∧ GL 8 (GI .i64) x.f5 ∧ GL 8 (GI .i64) x.f6 ∧ GL 8 (GI .i64) x.f7 ∧ GI .i64 x.f8 ∧ GI .i64 x.f9 ∧ GI .i64 x.f10
theorem o32 : Opens Try.prog 32 k32 g32 := OpensL.struct (fun x : S32 => (x.f0, x.f1, x.f2, x.f3, x.f4, x.f5, x.f6, x.f7, x.f8, x.f9, x.f10)) (fun a => ⟨a.1, a.2.1, a.2.2.1, a.2.2.2.1, a.2.2.2.2.1, a.2.2.2.2.2.1, a.2.2.2.2.2.2.1, a.2.2.2.2.2.2.2.1, a.2.2.2.2.2.2.2.2.1, a.2.2.2.2.2.2.2.2.2.1, a.2.2.2.2.2.2.2.2.2.2⟩) (fun _ => rfl) Try.underlying32 (by kernel_rfl) (OpensL.cons rfl (Opens.string Try.underlying9 (by kernel_rfl)) (OpensL.cons rfl (Opens.bool Try.underlying4 (by kernel_rfl)) (OpensL.cons rfl (Opens.int Try.underlying3 (by kernel_rfl)) (OpensL.cons rfl (Opens.int Try.underlying30 (by kernel_rfl)) (OpensL.cons rfl (Opens.int Try.underlying3 (by kernel_rfl)) (OpensL.cons rfl (Opens.slice Try.underlying22 (by kernel_rfl) (by kernel_rfl) (Opens.int Try.underlying3 (by kernel_rfl))) (OpensL.cons rfl (Opens.slice Try.underlying22 (by kernel_rfl) (by kernel_rfl) (Opens.int Try.underlying3 (by kernel_rfl))) (OpensL.cons rfl (Opens.slice Try.underlying22 (by kernel_rfl) (by kernel_rfl) (Opens.int Try.underlying3 (by kernel_rfl))) (OpensL.cons rfl (Opens.int Try.underlying3 (by kernel_rfl)) (OpensL.cons rfl (Opens.int Try.underlying3 (by kernel_rfl)) (OpensL.one rfl (Opens.int Try.underlying3 (by kernel_rfl)))))))))))))
def Pure : Prop := ∀ (a0_0 : Int) (l0_1 : List Int) (l0_2 : List Int) (l1 : List (S32)) (l2 : List Int), GI .i64 a0_0 → GL 8 (GI .i64) l0_1 → GL 8 (GI .i64) l0_2 → GL 144 g32 l1 → GL 8 (GI .i64) l2 → masklaw4_TreeArrives.f a0_0 l0_1 l0_2 l1 l2 = some true
end Go.Proofs.Ytagpbgabcenodaa.STreeArrives
