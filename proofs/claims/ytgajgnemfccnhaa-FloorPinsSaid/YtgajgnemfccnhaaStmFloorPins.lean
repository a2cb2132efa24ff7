/- The pure statement of the law FloorPins, and how its arguments are read. No conditions. -/
import Derived.Test.YtgajgnemfccnhaaPAx33
import Derived.Test.YtgajgnemfccnhaaOpn
namespace Go.Proofs.Ytgajgnemfccnhaa.SFloorPins
open Go.RowKit Go.Proofs.YtgajgnemfccnhaaW.PrintWords Go.Proofs.Ytgajgnemfccnhaa.Opn Go.Proofs.Ytgajgnemfccnhaa.PA
set_option linter.unusedVariables false
set_option linter.unusedSimpArgs false

def g47 (x : S47) : Prop := GI .i64 x.f0 ∧ GI .i64 x.f1
theorem o47 : Opens Try.prog 47 k47 g47 := OpensL.struct (fun x : S47 => (x.f0, x.f1)) (fun a => ⟨a.1, a.2⟩) (fun _ => rfl) Try.underlying47 (by kernel_rfl) (OpensL.cons rfl (Opens.int Try.underlying3 (by kernel_rfl)) (OpensL.one rfl (Opens.int Try.underlying3 (by kernel_rfl))))
def Pure : Prop := ∀ (a0_0 : ByteArray) (a0_1 : Bool) (a0_2 : Int) (a0_3 : Int) (a0_4 : Int) (l0_5 : List Int) (l0_6 : List Int) (l0_7 : List Int) (a0_8 : Int) (a0_9 : Int) (a0_10 : Int) (a1_0 : Int) (a1_1 : Int) (a2 : Int), GS a0_0 → GI .i64 a0_2 → GI .u64 a0_3 → GI .i64 a0_4 → GL 8 (GI .i64) l0_5 → GL 8 (GI .i64) l0_6 → GL 8 (GI .i64) l0_7 → GI .i64 a0_8 → GI .i64 a0_9 → GI .i64 a0_10 → GI .i64 a1_0 → GI .i64 a1_1 → GI .i64 a2 → ∃ k, masklaw4_FloorPins.f k a0_0 a0_1 a0_2 a0_3 a0_4 l0_5 l0_6 l0_7 a0_8 a0_9 a0_10 a1_0 a1_1 a2 = some true
end Go.Proofs.Ytgajgnemfccnhaa.SFloorPins
