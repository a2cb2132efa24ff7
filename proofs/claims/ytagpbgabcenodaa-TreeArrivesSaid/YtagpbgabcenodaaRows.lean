/-
  No cell of these rows narrows 'for every input' (looked for: loops, veiled, ifaces, maps, wideKeys, modest, calm, conditions, laid).
  DERIVED. THE GIVEN ROWS OF THIS SEAT. 3 by the template 'for every input the law returns true; each argument reads behind the call as it read before'; 0 by the template 'total and deterministic' (their statements: YtagpbgabcenodaaTotals.lean).
  GIVEN WITH THE SEED: the statements are not yours to turn. If you find one false, say at which input.
  Laid BY PROGRAM, IN A SANDBOX (cutbox-rows.mjs): the forced cells as the released guide's own fill.sh prints them over the translation eda522835c9fe768… (all of the seat's roots in one cut). By AI agents, Wed Nov 11 2026. No macro, syntax, notation, axiom, sorry.
-/
import Derived.Test.YtagpbgabcenodaaChecked
import GoSem.Claim
import GoSem.ClaimJoined
import GoSem.ClaimMapViews
import Derived.JoinedTies
import Derived.KernelRfl
namespace Go.Proofs.Ytagpbgabcenodaa
/- THE CELL 'sum', in the pinned program and in every row, IS THE sha256 OF THE DUMP (.gsa) THAT YtagpbgabcenodaaProg.lean LOADS. Nothing in Lean hashes anything: it is a label: what it is worth is what the hold of that sum in a sandbox is worth. -/
noncomputable def Try.pinned : Pinned := { name := "ytagpbgabcenodaa", sum := "eda522835c9fe76837a8cab4fab50b3e9ae4dab0517a936420e2e7d9012fb452", checked := Try.checked }
namespace Rows
def none {H : Type} : Left H := { results := [], args := [] }

/-- 'masklaw4.TreeChecks': WHATEVER THE INPUT: true; the input reads as it did. -/
def treeChecksSpec : ChangeSpec := { name := "treeChecks", fn := fun _ => fun
  | [d1, d2, d3, d4, d5] => { results := [.lit (.bool true)], args := [d1, d2, d3, d4, d5] }
  | _ => none }
def treeChecksRow : OpenClaim := { program := "ytagpbgabcenodaa", sum := "eda522835c9fe76837a8cab4fab50b3e9ae4dab0517a936420e2e7d9012fb452", func := "maskwright/masklaw4.TreeChecks", spec := "treeChecks", unfollowed := true, recurses := true, apart := false }
def TreeChecksSaid : Prop := treeChecksRow.holds Try.pinned (OpenSpec.ofChange treeChecksSpec)

/-- ITS FALSE NEIGHBOUR: 'it returns false'. Refute it at one input. -/
def treeChecksWrong : ChangeSpec := { name := "treeChecks", fn := fun _ => fun
  | [d1, d2, d3, d4, d5] => { results := [.lit (.bool false)], args := [d1, d2, d3, d4, d5] }
  | _ => none }
def TreeChecksWrongFalsely : Prop := treeChecksRow.holds Try.pinned (OpenSpec.ofChange treeChecksWrong)

/-- 'masklaw4.TreeArrives': WHATEVER THE INPUT: true; the input reads as it did. -/
def treeArrivesSpec : ChangeSpec := { name := "treeArrives", fn := fun _ => fun
  | [d1, d2, d3] => { results := [.lit (.bool true)], args := [d1, d2, d3] }
  | _ => none }
def treeArrivesRow : OpenClaim := { program := "ytagpbgabcenodaa", sum := "eda522835c9fe76837a8cab4fab50b3e9ae4dab0517a936420e2e7d9012fb452", func := "maskwright/masklaw4.TreeArrives", spec := "treeArrives", unfollowed := true, recurses := true, apart := false }
def TreeArrivesSaid : Prop := treeArrivesRow.holds Try.pinned (OpenSpec.ofChange treeArrivesSpec)

/-- ITS FALSE NEIGHBOUR: 'it returns false'. Refute it at one input. -/
def treeArrivesWrong : ChangeSpec := { name := "treeArrives", fn := fun _ => fun
  | [d1, d2, d3] => { results := [.lit (.bool false)], args := [d1, d2, d3] }
  | _ => none }
def TreeArrivesWrongFalsely : Prop := treeArrivesRow.holds Try.pinned (OpenSpec.ofChange treeArrivesWrong)

/-- 'masklaw4.FloorCells': WHATEVER THE INPUT: true; the input reads as it did. -/
def floorCellsSpec : ChangeSpec := { name := "floorCells", fn := fun _ => fun
  | [d1, d2] => { results := [.lit (.bool true)], args := [d1, d2] }
  | _ => none }
def floorCellsRow : OpenClaim := { program := "ytagpbgabcenodaa", sum := "eda522835c9fe76837a8cab4fab50b3e9ae4dab0517a936420e2e7d9012fb452", func := "maskwright/masklaw4.FloorCells", spec := "floorCells", unfollowed := true, recurses := true, apart := false }
def FloorCellsSaid : Prop := floorCellsRow.holds Try.pinned (OpenSpec.ofChange floorCellsSpec)

/-- ITS FALSE NEIGHBOUR: 'it returns false'. Refute it at one input. -/
def floorCellsWrong : ChangeSpec := { name := "floorCells", fn := fun _ => fun
  | [d1, d2] => { results := [.lit (.bool false)], args := [d1, d2] }
  | _ => none }
def FloorCellsWrongFalsely : Prop := floorCellsRow.holds Try.pinned (OpenSpec.ofChange floorCellsWrong)

/- THE SECOND FORM. 'bulk': how many values and letters a reading holds, each counted each time it is reached (what is shared counts as often as it is met; a slice's spare places count too). A statement '..UptoSaid' is the law's where the arguments, and the package variables that the reading takes, are together of bulk at most 1048576: NARROWER than '..Said'. Prove '..Said' where nothing that the law and all that it calls make is longer than what came in: it says more and counts as full. Else prove '..UptoSaid'. A law counts once. -/
mutual
def uptoBulk {H : Type} : DataW H → Nat
  | .lit (.string bytes) => bytes.length + 1
  | .lit _ => 1
  | .nil => 1
  | .ptr d => uptoBulk d + 1
  | .slice elems spare => uptoBulkAll elems + uptoBulkAll spare + 1
  | .agg parts => uptoBulkAll parts + 1
  | .iface _ d => uptoBulk d + 1
  | .map entries => uptoBulkEntries entries + 1
  | .held _ => 1
def uptoBulkAll {H : Type} : List (DataW H) → Nat
  | [] => 0
  | d :: r => uptoBulk d + uptoBulkAll r
def uptoBulkEntries {H : Type} : List (Lit × DataW H) → Nat
  | [] => 0
  | x :: r => uptoBulkEntry x + uptoBulkEntries r
def uptoBulkEntry {H : Type} : Lit × DataW H → Nat
  | (.string bytes, d) => bytes.length + uptoBulk d + 1
  | (_, d) => uptoBulk d + 1
 end
def uptoSmall : (H : Type) → List (DataW H) → Bool := fun _ ds => decide (uptoBulkAll ds ≤ 1048576)
def OpenSpec.upto (s : _root_.Go.ChangeSpec) : _root_.Go.OpenSpec := { _root_.Go.OpenSpec.ofChange s with cond := some uptoSmall }

/-- 'masklaw4.TreeChecks', WHERE WHAT IT READS IS OF BULK AT MOST 1048576: true; the input reads as it did. -/
def treeChecksUptoRow : OpenClaim := { program := "ytagpbgabcenodaa", sum := "eda522835c9fe76837a8cab4fab50b3e9ae4dab0517a936420e2e7d9012fb452", func := "maskwright/masklaw4.TreeChecks", spec := "treeChecks", unfollowed := true, recurses := true, apart := false, narrowed := true }
def TreeChecksUptoSaid : Prop := treeChecksUptoRow.holds Try.pinned (OpenSpec.upto treeChecksSpec)

/-- 'masklaw4.TreeArrives', WHERE WHAT IT READS IS OF BULK AT MOST 1048576: true; the input reads as it did. -/
def treeArrivesUptoRow : OpenClaim := { program := "ytagpbgabcenodaa", sum := "eda522835c9fe76837a8cab4fab50b3e9ae4dab0517a936420e2e7d9012fb452", func := "maskwright/masklaw4.TreeArrives", spec := "treeArrives", unfollowed := true, recurses := true, apart := false, narrowed := true }
def TreeArrivesUptoSaid : Prop := treeArrivesUptoRow.holds Try.pinned (OpenSpec.upto treeArrivesSpec)

/-- 'masklaw4.FloorCells', WHERE WHAT IT READS IS OF BULK AT MOST 1048576: true; the input reads as it did. -/
def floorCellsUptoRow : OpenClaim := { program := "ytagpbgabcenodaa", sum := "eda522835c9fe76837a8cab4fab50b3e9ae4dab0517a936420e2e7d9012fb452", func := "maskwright/masklaw4.FloorCells", spec := "floorCells", unfollowed := true, recurses := true, apart := false, narrowed := true }
def FloorCellsUptoSaid : Prop := floorCellsUptoRow.holds Try.pinned (OpenSpec.upto floorCellsSpec)

end Rows
end Go.Proofs.Ytagpbgabcenodaa
