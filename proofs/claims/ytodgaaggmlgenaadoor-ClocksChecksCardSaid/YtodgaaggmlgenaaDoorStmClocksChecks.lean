/- The pure statement of the law ClocksChecks, and how its arguments are read. No conditions. -/
import Derived.Test.YtodgaaggmlgenaaDoorPCx55
import Derived.Test.YtodgaaggmlgenaaDoorOpn
namespace Go.Proofs.YtodgaaggmlgenaaDoor.SClocksChecks
open Go.RowKit Go.Proofs.YtodgaaggmlgenaaDoorW.PrintWords Go.Proofs.YtodgaaggmlgenaaDoor.Opn Go.Proofs.YtodgaaggmlgenaaDoor.PC
set_option linter.unusedVariables false
set_option linter.unusedSimpArgs false

def g29 (x : S29) : Prop := GI .i64 x.f0 ∧ GI .i64 x.f1
theorem o29 : Opens Tryd.prog 29 k29 g29 := OpensL.struct (fun x : S29 => (x.f0, x.f1)) (fun a => ⟨a.1, a.2⟩) (fun _ => rfl) Tryd.underlying29 (by kernel_rfl) (OpensL.cons rfl (Opens.int Tryd.underlying3 (by kernel_rfl)) (OpensL.one rfl (Opens.int Tryd.underlying3 (by kernel_rfl))))
def g51 (x : S51) : Prop := GS x.f0 ∧ g29 x.f1
theorem o51 : Opens Tryd.prog 51 k51 g51 := OpensL.struct (fun x : S51 => (x.f0, x.f1)) (fun a => ⟨a.1, a.2⟩) (fun _ => rfl) Tryd.underlying51 (by kernel_rfl) (OpensL.cons rfl (Opens.string Tryd.underlying9 (by kernel_rfl)) (OpensL.one rfl o29))
def g53 (x : S53) : Prop := GS x.f0 ∧ GI .i64 x.f1
theorem o53 : Opens Tryd.prog 53 k53 g53 := OpensL.struct (fun x : S53 => (x.f0, x.f1)) (fun a => ⟨a.1, a.2⟩) (fun _ => rfl) Tryd.underlying53 (by kernel_rfl) (OpensL.cons rfl (Opens.string Tryd.underlying9 (by kernel_rfl)) (OpensL.one rfl (Opens.int Tryd.underlying3 (by kernel_rfl))))
def g49 (x : S49) : Prop := GS x.f0 ∧ GS x.f1 ∧ GI .i64 x.f2
theorem o49 : Opens Tryd.prog 49 k49 g49 := OpensL.struct (fun x : S49 => (x.f0, x.f1, x.f2)) (fun a => ⟨a.1, a.2.1, a.2.2⟩) (fun _ => rfl) Tryd.underlying49 (by kernel_rfl) (OpensL.cons rfl (Opens.string Tryd.underlying9 (by kernel_rfl)) (OpensL.cons rfl (Opens.string Tryd.underlying9 (by kernel_rfl)) (OpensL.one rfl (Opens.int Tryd.underlying3 (by kernel_rfl)))))
def g65 (x : S65) : Prop := GS x.f0 ∧ GI .i64 x.f1 ∧ GI .i64 x.f2 ∧ GI .i64 x.f3 ∧ GB x.f4
theorem o65 : Opens Tryd.prog 65 k65 g65 := OpensL.struct (fun x : S65 => (x.f0, x.f1, x.f2, x.f3, x.f4)) (fun a => ⟨a.1, a.2.1, a.2.2.1, a.2.2.2.1, a.2.2.2.2⟩) (fun _ => rfl) Tryd.underlying65 (by kernel_rfl) (OpensL.cons rfl (Opens.string Tryd.underlying9 (by kernel_rfl)) (OpensL.cons rfl (Opens.int Tryd.underlying3 (by kernel_rfl)) (OpensL.cons rfl (Opens.int Tryd.underlying3 (by kernel_rfl)) (OpensL.cons rfl (Opens.int Tryd.underlying3 (by kernel_rfl)) (OpensL.one rfl (Opens.bool Tryd.underlying4 (by kernel_rfl)))))))
def g118 (x : S118) : Prop := GI .i64 x.f0 ∧ GI .u64 x.f1 ∧ GL 8 (GI .i64) x.f2
theorem o118 : Opens Tryd.prog 118 k118 g118 := OpensL.struct (fun x : S118 => (x.f0, x.f1, x.f2)) (fun a => ⟨a.1, a.2.1, a.2.2⟩) (fun _ => rfl) Tryd.underlying118 (by kernel_rfl) (OpensL.cons rfl (Opens.int Tryd.underlying3 (by kernel_rfl)) (OpensL.cons rfl (Opens.int Tryd.underlying88 (by kernel_rfl)) (OpensL.one rfl (Opens.slice Tryd.underlying43 (by kernel_rfl) (by kernel_rfl) (Opens.int Tryd.underlying3 (by kernel_rfl))))))
def Pure : Prop := ∀ (a0_0 : Int) (l0_1 : List (S51)) (l0_2 : List (S53)) (l0_3 : List (S49)) (l1_0 : List ByteArray) (l1_1 : List ByteArray) (l1_2 : List (S65)) (l1_3 : List (S118)) (l1_4 : List Int), GI .i64 a0_0 → GL 32 g51 l0_1 → GL 24 g53 l0_2 → GL 40 g49 l0_3 → GL 16 GS l1_0 → GL 16 GS l1_1 → GL 48 g65 l1_2 → GL 40 g118 l1_3 → GL 8 (GI .i64) l1_4 → ∃ k, masklaw4_ClocksChecks.f k a0_0 l0_1 l0_2 l0_3 l1_0 l1_1 l1_2 l1_3 l1_4 = some true
end Go.Proofs.YtodgaaggmlgenaaDoor.SClocksChecks
