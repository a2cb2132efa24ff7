/-
  No cell of these rows narrows 'for every input' (looked for: loops, veiled, ifaces, maps, wideKeys, modest, calm, conditions, laid).
  DERIVED. THE GIVEN ROWS OF THIS SEAT. 7 by the template 'for every input the law returns true; each argument reads behind the call as it read before'; 0 by the template 'total and deterministic' (their statements: YtgajgnemfccnhaaTotals.lean).
  GIVEN WITH THE SEED: the statements are not yours to turn. If you find one false, say at which input.
  Laid BY PROGRAM, IN A SANDBOX (cutbox-rows.mjs): the forced cells as the released guide's own fill.sh prints them over the translation f1de1f5a252fe205… (all of the seat's roots in one cut). By AI agents, Wed Nov 11 2026. No macro, syntax, notation, axiom, sorry.
-/
import Derived.Test.YtgajgnemfccnhaaChecked
import GoSem.Claim
import GoSem.ClaimJoined
import GoSem.ClaimMapViews
import Derived.JoinedTies
import Derived.KernelRfl
namespace Go.Proofs.Ytgajgnemfccnhaa
/- THE CELL 'sum', in the pinned program and in every row, IS THE sha256 OF THE DUMP (.gsa) THAT YtgajgnemfccnhaaProg.lean LOADS. Nothing in Lean hashes anything: it is a label: what it is worth is what the hold of that sum in a sandbox is worth. -/
noncomputable def Try.pinned : Pinned := { name := "ytgajgnemfccnhaa", sum := "f1de1f5a252fe20534202e84c8a59d2803e4a570bcef68f6cf0459c8514dcce9", checked := Try.checked }
namespace Rows
def none {H : Type} : Left H := { results := [], args := [] }

/-- 'masklaw4.DelayChecks': WHATEVER THE INPUT: true; the input reads as it did. -/
def delayChecksSpec : ChangeSpec := { name := "delayChecks", fn := fun _ => fun
  | [d1, d2] => { results := [.lit (.bool true)], args := [d1, d2] }
  | _ => none }
def delayChecksRow : OpenClaim := { program := "ytgajgnemfccnhaa", sum := "f1de1f5a252fe20534202e84c8a59d2803e4a570bcef68f6cf0459c8514dcce9", func := "maskwright/masklaw4.DelayChecks", spec := "delayChecks", apart := false }
def DelayChecksSaid : Prop := delayChecksRow.holds Try.pinned (OpenSpec.ofChange delayChecksSpec)

/-- ITS FALSE NEIGHBOUR: 'it returns false'. Refute it at one input. -/
def delayChecksWrong : ChangeSpec := { name := "delayChecks", fn := fun _ => fun
  | [d1, d2] => { results := [.lit (.bool false)], args := [d1, d2] }
  | _ => none }
def DelayChecksWrongFalsely : Prop := delayChecksRow.holds Try.pinned (OpenSpec.ofChange delayChecksWrong)

/-- 'masklaw4.TreeSkews': WHATEVER THE INPUT: true; the input reads as it did. -/
def treeSkewsSpec : ChangeSpec := { name := "treeSkews", fn := fun _ => fun
  | [d] => { results := [.lit (.bool true)], args := [d] }
  | _ => none }
def treeSkewsRow : OpenClaim := { program := "ytgajgnemfccnhaa", sum := "f1de1f5a252fe20534202e84c8a59d2803e4a570bcef68f6cf0459c8514dcce9", func := "maskwright/masklaw4.TreeSkews", spec := "treeSkews", unfollowed := true, recurses := true, apart := false }
def TreeSkewsSaid : Prop := treeSkewsRow.holds Try.pinned (OpenSpec.ofChange treeSkewsSpec)

/-- ITS FALSE NEIGHBOUR: 'it returns false'. Refute it at one input. -/
def treeSkewsWrong : ChangeSpec := { name := "treeSkews", fn := fun _ => fun
  | [d] => { results := [.lit (.bool false)], args := [d] }
  | _ => none }
def TreeSkewsWrongFalsely : Prop := treeSkewsRow.holds Try.pinned (OpenSpec.ofChange treeSkewsWrong)

/-- 'masklaw4.FloorPins': WHATEVER THE INPUT: true; the input reads as it did. -/
def floorPinsSpec : ChangeSpec := { name := "floorPins", fn := fun _ => fun
  | [d1, d2, d3] => { results := [.lit (.bool true)], args := [d1, d2, d3] }
  | _ => none }
def floorPinsRow : OpenClaim := { program := "ytgajgnemfccnhaa", sum := "f1de1f5a252fe20534202e84c8a59d2803e4a570bcef68f6cf0459c8514dcce9", func := "maskwright/masklaw4.FloorPins", spec := "floorPins", apart := false }
def FloorPinsSaid : Prop := floorPinsRow.holds Try.pinned (OpenSpec.ofChange floorPinsSpec)

/-- ITS FALSE NEIGHBOUR: 'it returns false'. Refute it at one input. -/
def floorPinsWrong : ChangeSpec := { name := "floorPins", fn := fun _ => fun
  | [d1, d2, d3] => { results := [.lit (.bool false)], args := [d1, d2, d3] }
  | _ => none }
def FloorPinsWrongFalsely : Prop := floorPinsRow.holds Try.pinned (OpenSpec.ofChange floorPinsWrong)

/-- 'masklaw4.FloorChecks': WHATEVER THE INPUT: true; the input reads as it did. -/
def floorChecksSpec : ChangeSpec := { name := "floorChecks", fn := fun _ => fun
  | [d1, d2, d3, d4] => { results := [.lit (.bool true)], args := [d1, d2, d3, d4] }
  | _ => none }
def floorChecksRow : OpenClaim := { program := "ytgajgnemfccnhaa", sum := "f1de1f5a252fe20534202e84c8a59d2803e4a570bcef68f6cf0459c8514dcce9", func := "maskwright/masklaw4.FloorChecks", spec := "floorChecks", apart := false }
def FloorChecksSaid : Prop := floorChecksRow.holds Try.pinned (OpenSpec.ofChange floorChecksSpec)

/-- ITS FALSE NEIGHBOUR: 'it returns false'. Refute it at one input. -/
def floorChecksWrong : ChangeSpec := { name := "floorChecks", fn := fun _ => fun
  | [d1, d2, d3, d4] => { results := [.lit (.bool false)], args := [d1, d2, d3, d4] }
  | _ => none }
def FloorChecksWrongFalsely : Prop := floorChecksRow.holds Try.pinned (OpenSpec.ofChange floorChecksWrong)

/-- 'masklaw4.LegalRows': WHATEVER THE INPUT: true; the input reads as it did. -/
def legalRowsSpec : ChangeSpec := { name := "legalRows", fn := fun _ => fun
  | [d1, d2, d3] => { results := [.lit (.bool true)], args := [d1, d2, d3] }
  | _ => none }
def legalRowsRow : OpenClaim := { program := "ytgajgnemfccnhaa", sum := "f1de1f5a252fe20534202e84c8a59d2803e4a570bcef68f6cf0459c8514dcce9", func := "maskwright/masklaw4.LegalRows", spec := "legalRows", recurses := true, apart := false }
def LegalRowsSaid : Prop := legalRowsRow.holds Try.pinned (OpenSpec.ofChange legalRowsSpec)

/-- ITS FALSE NEIGHBOUR: 'it returns false'. Refute it at one input. -/
def legalRowsWrong : ChangeSpec := { name := "legalRows", fn := fun _ => fun
  | [d1, d2, d3] => { results := [.lit (.bool false)], args := [d1, d2, d3] }
  | _ => none }
def LegalRowsWrongFalsely : Prop := legalRowsRow.holds Try.pinned (OpenSpec.ofChange legalRowsWrong)

/-- 'masklaw4.LegalChecks': WHATEVER THE INPUT: true; the input reads as it did. -/
def legalChecksSpec : ChangeSpec := { name := "legalChecks", fn := fun _ => fun
  | [d1, d2, d3] => { results := [.lit (.bool true)], args := [d1, d2, d3] }
  | _ => none }
def legalChecksRow : OpenClaim := { program := "ytgajgnemfccnhaa", sum := "f1de1f5a252fe20534202e84c8a59d2803e4a570bcef68f6cf0459c8514dcce9", func := "maskwright/masklaw4.LegalChecks", spec := "legalChecks", apart := false }
def LegalChecksSaid : Prop := legalChecksRow.holds Try.pinned (OpenSpec.ofChange legalChecksSpec)

/-- ITS FALSE NEIGHBOUR: 'it returns false'. Refute it at one input. -/
def legalChecksWrong : ChangeSpec := { name := "legalChecks", fn := fun _ => fun
  | [d1, d2, d3] => { results := [.lit (.bool false)], args := [d1, d2, d3] }
  | _ => none }
def LegalChecksWrongFalsely : Prop := legalChecksRow.holds Try.pinned (OpenSpec.ofChange legalChecksWrong)

/-- 'masklaw4.StreamSums': WHATEVER THE INPUT: true; the input reads as it did. -/
def streamSumsSpec : ChangeSpec := { name := "streamSums", fn := fun _ => fun
  | [d] => { results := [.lit (.bool true)], args := [d] }
  | _ => none }
def streamSumsRow : OpenClaim := { program := "ytgajgnemfccnhaa", sum := "f1de1f5a252fe20534202e84c8a59d2803e4a570bcef68f6cf0459c8514dcce9", func := "maskwright/masklaw4.StreamSums", spec := "streamSums", unfollowed := true, recurses := true, apart := false }
def StreamSumsSaid : Prop := streamSumsRow.holds Try.pinned (OpenSpec.ofChange streamSumsSpec)

/-- ITS FALSE NEIGHBOUR: 'it returns false'. Refute it at one input. -/
def streamSumsWrong : ChangeSpec := { name := "streamSums", fn := fun _ => fun
  | [d] => { results := [.lit (.bool false)], args := [d] }
  | _ => none }
def StreamSumsWrongFalsely : Prop := streamSumsRow.holds Try.pinned (OpenSpec.ofChange streamSumsWrong)

/- THE SECOND FORM. 'bulk': how many values and letters a reading holds, each counted each time it is reached (what is shared counts as often as it is met; a slice's spare places count too). A statement '..UptoSaid' is the law's where the arguments, and the package variables that the reading takes, are together of bulk at most 1048576: NARROWER than '..Said'. Prove '..Said' where nothing that the law and all that it calls make is longer than what came in: it says more and counts as full. Else prove '..UptoSaid'. A law counts once. -/
mutual
def uptoBulk {H : Type} : DataW H → Nat
  | .lit (.string bytes) => bytes.length + 1
  | .lit _ => 1
  | .nil => 1
  | .ptr d => uptoBulk d + 1
  | .slice elems spare => uptoBulkAll elems + uptoBulkAll spare + 1
  | .agg parts => uptoBulkAll parts + 1
  | .iface _ d => uptoBulk d + 1
  | .map entries => uptoBulkEntries entries + 1
  | .held _ => 1
def uptoBulkAll {H : Type} : List (DataW H) → Nat
  | [] => 0
  | d :: r => uptoBulk d + uptoBulkAll r
def uptoBulkEntries {H : Type} : List (Lit × DataW H) → Nat
  | [] => 0
  | x :: r => uptoBulkEntry x + uptoBulkEntries r
def uptoBulkEntry {H : Type} : Lit × DataW H → Nat
  | (.string bytes, d) => bytes.length + uptoBulk d + 1
  | (_, d) => uptoBulk d + 1
 end
def uptoSmall : (H : Type) → List (DataW H) → Bool := fun _ ds => decide (uptoBulkAll ds ≤ 1048576)
def OpenSpec.upto (s : _root_.Go.ChangeSpec) : _root_.Go.OpenSpec := { _root_.Go.OpenSpec.ofChange s with cond := some uptoSmall }

/-- 'masklaw4.DelayChecks', WHERE WHAT IT READS IS OF BULK AT MOST 1048576: true; the input reads as it did. -/
def delayChecksUptoRow : OpenClaim := { program := "ytgajgnemfccnhaa", sum := "f1de1f5a252fe20534202e84c8a59d2803e4a570bcef68f6cf0459c8514dcce9", func := "maskwright/masklaw4.DelayChecks", spec := "delayChecks", apart := false, narrowed := true }
def DelayChecksUptoSaid : Prop := delayChecksUptoRow.holds Try.pinned (OpenSpec.upto delayChecksSpec)

/-- 'masklaw4.TreeSkews', WHERE WHAT IT READS IS OF BULK AT MOST 1048576: true; the input reads as it did. -/
def treeSkewsUptoRow : OpenClaim := { program := "ytgajgnemfccnhaa", sum := "f1de1f5a252fe20534202e84c8a59d2803e4a570bcef68f6cf0459c8514dcce9", func := "maskwright/masklaw4.TreeSkews", spec := "treeSkews", unfollowed := true, recurses := true, apart := false, narrowed := true }
def TreeSkewsUptoSaid : Prop := treeSkewsUptoRow.holds Try.pinned (OpenSpec.upto treeSkewsSpec)

/-- 'masklaw4.FloorPins', WHERE WHAT IT READS IS OF BULK AT MOST 1048576: true; the input reads as it did. -/
def floorPinsUptoRow : OpenClaim := { program := "ytgajgnemfccnhaa", sum := "f1de1f5a252fe20534202e84c8a59d2803e4a570bcef68f6cf0459c8514dcce9", func := "maskwright/masklaw4.FloorPins", spec := "floorPins", apart := false, narrowed := true }
def FloorPinsUptoSaid : Prop := floorPinsUptoRow.holds Try.pinned (OpenSpec.upto floorPinsSpec)

/-- 'masklaw4.FloorChecks', WHERE WHAT IT READS IS OF BULK AT MOST 1048576: true; the input reads as it did. -/
def floorChecksUptoRow : OpenClaim := { program := "ytgajgnemfccnhaa", sum := "f1de1f5a252fe20534202e84c8a59d2803e4a570bcef68f6cf0459c8514dcce9", func := "maskwright/masklaw4.FloorChecks", spec := "floorChecks", apart := false, narrowed := true }
def FloorChecksUptoSaid : Prop := floorChecksUptoRow.holds Try.pinned (OpenSpec.upto floorChecksSpec)

/-- 'masklaw4.LegalRows', WHERE WHAT IT READS IS OF BULK AT MOST 1048576: true; the input reads as it did. -/
def legalRowsUptoRow : OpenClaim := { program := "ytgajgnemfccnhaa", sum := "f1de1f5a252fe20534202e84c8a59d2803e4a570bcef68f6cf0459c8514dcce9", func := "maskwright/masklaw4.LegalRows", spec := "legalRows", recurses := true, apart := false, narrowed := true }
def LegalRowsUptoSaid : Prop := legalRowsUptoRow.holds Try.pinned (OpenSpec.upto legalRowsSpec)

/-- 'masklaw4.LegalChecks', WHERE WHAT IT READS IS OF BULK AT MOST 1048576: true; the input reads as it did. -/
def legalChecksUptoRow : OpenClaim := { program := "ytgajgnemfccnhaa", sum := "f1de1f5a252fe20534202e84c8a59d2803e4a570bcef68f6cf0459c8514dcce9", func := "maskwright/masklaw4.LegalChecks", spec := "legalChecks", apart := false, narrowed := true }
def LegalChecksUptoSaid : Prop := legalChecksUptoRow.holds Try.pinned (OpenSpec.upto legalChecksSpec)

/-- 'masklaw4.StreamSums', WHERE WHAT IT READS IS OF BULK AT MOST 1048576: true; the input reads as it did. -/
def streamSumsUptoRow : OpenClaim := { program := "ytgajgnemfccnhaa", sum := "f1de1f5a252fe20534202e84c8a59d2803e4a570bcef68f6cf0459c8514dcce9", func := "maskwright/masklaw4.StreamSums", spec := "streamSums", unfollowed := true, recurses := true, apart := false, narrowed := true }
def StreamSumsUptoSaid : Prop := streamSumsUptoRow.holds Try.pinned (OpenSpec.upto streamSumsSpec)

end Rows
end Go.Proofs.Ytgajgnemfccnhaa
