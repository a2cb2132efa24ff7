/-
  No cell of these rows narrows 'for every input' (looked for: loops, veiled, ifaces, maps, wideKeys, modest, calm, conditions, laid).
  DERIVED. THE GIVEN ROWS OF THIS SEAT. 8 by the template 'for every input the law returns true; each argument reads behind the call as it read before'; 0 by the template 'total and deterministic' (their statements: YtlbljdjbcbgnlaaTotals.lean).
  GIVEN WITH THE SEED: the statements are not yours to turn. If you find one false, say at which input.
  Laid BY PROGRAM, IN A SANDBOX (cutbox-rows.mjs): the forced cells as the released guide's own fill.sh prints them over the translation 3bb9005b58e908a7… (all of the seat's roots in one cut). By AI agents, Wed Nov 11 2026. No macro, syntax, notation, axiom, sorry.
-/
import Derived.Test.YtlbljdjbcbgnlaaChecked
import GoSem.Claim
import GoSem.ClaimJoined
import GoSem.ClaimMapViews
import Derived.JoinedTies
import Derived.KernelRfl
namespace Go.Proofs.Ytlbljdjbcbgnlaa
/- THE CELL 'sum', in the pinned program and in every row, IS THE sha256 OF THE DUMP (.gsa) THAT YtlbljdjbcbgnlaaProg.lean LOADS. Nothing in Lean hashes anything: it is a label: what it is worth is what the hold of that sum in a sandbox is worth. -/
noncomputable def Try.pinned : Pinned := { name := "ytlbljdjbcbgnlaa", sum := "3bb9005b58e908a77a3e46a4651b9c4e3cd4079328b359a13df72a6a87ff8999", checked := Try.checked }
namespace Rows
def none {H : Type} : Left H := { results := [], args := [] }

/-- 'masklaw4.ExactSolutions': WHATEVER THE INPUT: true; the input reads as it did. -/
def exactSolutionsSpec : ChangeSpec := { name := "exactSolutions", fn := fun _ => fun
  | [d1, d2] => { results := [.lit (.bool true)], args := [d1, d2] }
  | _ => none }
def exactSolutionsRow : OpenClaim := { program := "ytlbljdjbcbgnlaa", sum := "3bb9005b58e908a77a3e46a4651b9c4e3cd4079328b359a13df72a6a87ff8999", func := "maskwright/masklaw4.ExactSolutions", spec := "exactSolutions", inPlace := ["internal/abi.NoEscape"], unfollowed := true, recurses := true, apart := false }
def ExactSolutionsSaid : Prop := exactSolutionsRow.holds Try.pinned (OpenSpec.ofChange exactSolutionsSpec)

/-- ITS FALSE NEIGHBOUR: 'it returns false'. Refute it at one input. -/
def exactSolutionsWrong : ChangeSpec := { name := "exactSolutions", fn := fun _ => fun
  | [d1, d2] => { results := [.lit (.bool false)], args := [d1, d2] }
  | _ => none }
def ExactSolutionsWrongFalsely : Prop := exactSolutionsRow.holds Try.pinned (OpenSpec.ofChange exactSolutionsWrong)

/-- 'masklaw4.ExactMatrices': WHATEVER THE INPUT: true; the input reads as it did. -/
def exactMatricesSpec : ChangeSpec := { name := "exactMatrices", fn := fun _ => fun
  | [d] => { results := [.lit (.bool true)], args := [d] }
  | _ => none }
def exactMatricesRow : OpenClaim := { program := "ytlbljdjbcbgnlaa", sum := "3bb9005b58e908a77a3e46a4651b9c4e3cd4079328b359a13df72a6a87ff8999", func := "maskwright/masklaw4.ExactMatrices", spec := "exactMatrices", inPlace := ["internal/abi.NoEscape"], recurses := true, apart := false }
def ExactMatricesSaid : Prop := exactMatricesRow.holds Try.pinned (OpenSpec.ofChange exactMatricesSpec)

/-- ITS FALSE NEIGHBOUR: 'it returns false'. Refute it at one input. -/
def exactMatricesWrong : ChangeSpec := { name := "exactMatrices", fn := fun _ => fun
  | [d] => { results := [.lit (.bool false)], args := [d] }
  | _ => none }
def ExactMatricesWrongFalsely : Prop := exactMatricesRow.holds Try.pinned (OpenSpec.ofChange exactMatricesWrong)

/-- 'masklaw4.ExactSmalls': WHATEVER THE INPUT: true; the input reads as it did. -/
def exactSmallsSpec : ChangeSpec := { name := "exactSmalls", fn := fun _ => fun
  | [d1, d2] => { results := [.lit (.bool true)], args := [d1, d2] }
  | _ => none }
def exactSmallsRow : OpenClaim := { program := "ytlbljdjbcbgnlaa", sum := "3bb9005b58e908a77a3e46a4651b9c4e3cd4079328b359a13df72a6a87ff8999", func := "maskwright/masklaw4.ExactSmalls", spec := "exactSmalls", inPlace := ["internal/abi.NoEscape"], recurses := true, apart := false }
def ExactSmallsSaid : Prop := exactSmallsRow.holds Try.pinned (OpenSpec.ofChange exactSmallsSpec)

/-- ITS FALSE NEIGHBOUR: 'it returns false'. Refute it at one input. -/
def exactSmallsWrong : ChangeSpec := { name := "exactSmalls", fn := fun _ => fun
  | [d1, d2] => { results := [.lit (.bool false)], args := [d1, d2] }
  | _ => none }
def ExactSmallsWrongFalsely : Prop := exactSmallsRow.holds Try.pinned (OpenSpec.ofChange exactSmallsWrong)

/-- 'masklaw4.ExactReads': WHATEVER THE INPUT: true; the input reads as it did. -/
def exactReadsSpec : ChangeSpec := { name := "exactReads", fn := fun _ => fun
  | [d] => { results := [.lit (.bool true)], args := [d] }
  | _ => none }
def exactReadsRow : OpenClaim := { program := "ytlbljdjbcbgnlaa", sum := "3bb9005b58e908a77a3e46a4651b9c4e3cd4079328b359a13df72a6a87ff8999", func := "maskwright/masklaw4.ExactReads", spec := "exactReads", inPlace := ["internal/abi.NoEscape"], recurses := true, apart := false }
def ExactReadsSaid : Prop := exactReadsRow.holds Try.pinned (OpenSpec.ofChange exactReadsSpec)

/-- ITS FALSE NEIGHBOUR: 'it returns false'. Refute it at one input. -/
def exactReadsWrong : ChangeSpec := { name := "exactReads", fn := fun _ => fun
  | [d] => { results := [.lit (.bool false)], args := [d] }
  | _ => none }
def ExactReadsWrongFalsely : Prop := exactReadsRow.holds Try.pinned (OpenSpec.ofChange exactReadsWrong)

/-- 'masklaw4.ExactDivides': WHATEVER THE INPUT: true; the input reads as it did. -/
def exactDividesSpec : ChangeSpec := { name := "exactDivides", fn := fun _ => fun
  | [d1, d2] => { results := [.lit (.bool true)], args := [d1, d2] }
  | _ => none }
def exactDividesRow : OpenClaim := { program := "ytlbljdjbcbgnlaa", sum := "3bb9005b58e908a77a3e46a4651b9c4e3cd4079328b359a13df72a6a87ff8999", func := "maskwright/masklaw4.ExactDivides", spec := "exactDivides", inPlace := ["internal/abi.NoEscape"], recurses := true, apart := false }
def ExactDividesSaid : Prop := exactDividesRow.holds Try.pinned (OpenSpec.ofChange exactDividesSpec)

/-- ITS FALSE NEIGHBOUR: 'it returns false'. Refute it at one input. -/
def exactDividesWrong : ChangeSpec := { name := "exactDivides", fn := fun _ => fun
  | [d1, d2] => { results := [.lit (.bool false)], args := [d1, d2] }
  | _ => none }
def ExactDividesWrongFalsely : Prop := exactDividesRow.holds Try.pinned (OpenSpec.ofChange exactDividesWrong)

/-- 'masklaw4.ExactAdds': WHATEVER THE INPUT: true; the input reads as it did. -/
def exactAddsSpec : ChangeSpec := { name := "exactAdds", fn := fun _ => fun
  | [d1, d2] => { results := [.lit (.bool true)], args := [d1, d2] }
  | _ => none }
def exactAddsRow : OpenClaim := { program := "ytlbljdjbcbgnlaa", sum := "3bb9005b58e908a77a3e46a4651b9c4e3cd4079328b359a13df72a6a87ff8999", func := "maskwright/masklaw4.ExactAdds", spec := "exactAdds", inPlace := ["internal/abi.NoEscape"], recurses := true, apart := false }
def ExactAddsSaid : Prop := exactAddsRow.holds Try.pinned (OpenSpec.ofChange exactAddsSpec)

/-- ITS FALSE NEIGHBOUR: 'it returns false'. Refute it at one input. -/
def exactAddsWrong : ChangeSpec := { name := "exactAdds", fn := fun _ => fun
  | [d1, d2] => { results := [.lit (.bool false)], args := [d1, d2] }
  | _ => none }
def ExactAddsWrongFalsely : Prop := exactAddsRow.holds Try.pinned (OpenSpec.ofChange exactAddsWrong)

/-- 'masklaw4.ExactBroken': WHATEVER THE INPUT: true; the input reads as it did. -/
def exactBrokenSpec : ChangeSpec := { name := "exactBroken", fn := fun _ => fun
  | [d1, d2, d3] => { results := [.lit (.bool true)], args := [d1, d2, d3] }
  | _ => none }
def exactBrokenRow : OpenClaim := { program := "ytlbljdjbcbgnlaa", sum := "3bb9005b58e908a77a3e46a4651b9c4e3cd4079328b359a13df72a6a87ff8999", func := "maskwright/masklaw4.ExactBroken", spec := "exactBroken", inPlace := ["internal/abi.NoEscape"], recurses := true, apart := false }
def ExactBrokenSaid : Prop := exactBrokenRow.holds Try.pinned (OpenSpec.ofChange exactBrokenSpec)

/-- ITS FALSE NEIGHBOUR: 'it returns false'. Refute it at one input. -/
def exactBrokenWrong : ChangeSpec := { name := "exactBroken", fn := fun _ => fun
  | [d1, d2, d3] => { results := [.lit (.bool false)], args := [d1, d2, d3] }
  | _ => none }
def ExactBrokenWrongFalsely : Prop := exactBrokenRow.holds Try.pinned (OpenSpec.ofChange exactBrokenWrong)

/-- 'masklaw4.ExactRatios': WHATEVER THE INPUT: true; the input reads as it did. -/
def exactRatiosSpec : ChangeSpec := { name := "exactRatios", fn := fun _ => fun
  | [d1, d2, d3, d4] => { results := [.lit (.bool true)], args := [d1, d2, d3, d4] }
  | _ => none }
def exactRatiosRow : OpenClaim := { program := "ytlbljdjbcbgnlaa", sum := "3bb9005b58e908a77a3e46a4651b9c4e3cd4079328b359a13df72a6a87ff8999", func := "maskwright/masklaw4.ExactRatios", spec := "exactRatios", inPlace := ["internal/abi.NoEscape"], recurses := true, apart := false }
def ExactRatiosSaid : Prop := exactRatiosRow.holds Try.pinned (OpenSpec.ofChange exactRatiosSpec)

/-- ITS FALSE NEIGHBOUR: 'it returns false'. Refute it at one input. -/
def exactRatiosWrong : ChangeSpec := { name := "exactRatios", fn := fun _ => fun
  | [d1, d2, d3, d4] => { results := [.lit (.bool false)], args := [d1, d2, d3, d4] }
  | _ => none }
def ExactRatiosWrongFalsely : Prop := exactRatiosRow.holds Try.pinned (OpenSpec.ofChange exactRatiosWrong)

/- THE SECOND FORM. 'bulk': how many values and letters a reading holds, each counted each time it is reached (what is shared counts as often as it is met; a slice's spare places count too). A statement '..UptoSaid' is the law's where the arguments, and the package variables that the reading takes, are together of bulk at most 1048576: NARROWER than '..Said'. Prove '..Said' where nothing that the law and all that it calls make is longer than what came in: it says more and counts as full. Else prove '..UptoSaid'. A law counts once. -/
mutual
def uptoBulk {H : Type} : DataW H → Nat
  | .lit (.string bytes) => bytes.length + 1
  | .lit _ => 1
  | .nil => 1
  | .ptr d => uptoBulk d + 1
  | .slice elems spare => uptoBulkAll elems + uptoBulkAll spare + 1
  | .agg parts => uptoBulkAll parts + 1
  | .iface _ d => uptoBulk d + 1
  | .map entries => uptoBulkEntries entries + 1
  | .held _ => 1
def uptoBulkAll {H : Type} : List (DataW H) → Nat
  | [] => 0
  | d :: r => uptoBulk d + uptoBulkAll r
def uptoBulkEntries {H : Type} : List (Lit × DataW H) → Nat
  | [] => 0
  | x :: r => uptoBulkEntry x + uptoBulkEntries r
def uptoBulkEntry {H : Type} : Lit × DataW H → Nat
  | (.string bytes, d) => bytes.length + uptoBulk d + 1
  | (_, d) => uptoBulk d + 1
 end
def uptoSmall : (H : Type) → List (DataW H) → Bool := fun _ ds => decide (uptoBulkAll ds ≤ 1048576)
def OpenSpec.upto (s : _root_.Go.ChangeSpec) : _root_.Go.OpenSpec := { _root_.Go.OpenSpec.ofChange s with cond := some uptoSmall }

/-- 'masklaw4.ExactSolutions', WHERE WHAT IT READS IS OF BULK AT MOST 1048576: true; the input reads as it did. -/
def exactSolutionsUptoRow : OpenClaim := { program := "ytlbljdjbcbgnlaa", sum := "3bb9005b58e908a77a3e46a4651b9c4e3cd4079328b359a13df72a6a87ff8999", func := "maskwright/masklaw4.ExactSolutions", spec := "exactSolutions", inPlace := ["internal/abi.NoEscape"], unfollowed := true, recurses := true, apart := false, narrowed := true }
def ExactSolutionsUptoSaid : Prop := exactSolutionsUptoRow.holds Try.pinned (OpenSpec.upto exactSolutionsSpec)

/-- 'masklaw4.ExactMatrices', WHERE WHAT IT READS IS OF BULK AT MOST 1048576: true; the input reads as it did. -/
def exactMatricesUptoRow : OpenClaim := { program := "ytlbljdjbcbgnlaa", sum := "3bb9005b58e908a77a3e46a4651b9c4e3cd4079328b359a13df72a6a87ff8999", func := "maskwright/masklaw4.ExactMatrices", spec := "exactMatrices", inPlace := ["internal/abi.NoEscape"], recurses := true, apart := false, narrowed := true }
def ExactMatricesUptoSaid : Prop := exactMatricesUptoRow.holds Try.pinned (OpenSpec.upto exactMatricesSpec)

/-- 'masklaw4.ExactSmalls', WHERE WHAT IT READS IS OF BULK AT MOST 1048576: true; the input reads as it did. -/
def exactSmallsUptoRow : OpenClaim := { program := "ytlbljdjbcbgnlaa", sum := "3bb9005b58e908a77a3e46a4651b9c4e3cd4079328b359a13df72a6a87ff8999", func := "maskwright/masklaw4.ExactSmalls", spec := "exactSmalls", inPlace := ["internal/abi.NoEscape"], recurses := true, apart := false, narrowed := true }
def ExactSmallsUptoSaid : Prop := exactSmallsUptoRow.holds Try.pinned (OpenSpec.upto exactSmallsSpec)

/-- 'masklaw4.ExactReads', WHERE WHAT IT READS IS OF BULK AT MOST 1048576: true; the input reads as it did. -/
def exactReadsUptoRow : OpenClaim := { program := "ytlbljdjbcbgnlaa", sum := "3bb9005b58e908a77a3e46a4651b9c4e3cd4079328b359a13df72a6a87ff8999", func := "maskwright/masklaw4.ExactReads", spec := "exactReads", inPlace := ["internal/abi.NoEscape"], recurses := true, apart := false, narrowed := true }
def ExactReadsUptoSaid : Prop := exactReadsUptoRow.holds Try.pinned (OpenSpec.upto exactReadsSpec)

/-- 'masklaw4.ExactDivides', WHERE WHAT IT READS IS OF BULK AT MOST 1048576: true; the input reads as it did. -/
def exactDividesUptoRow : OpenClaim := { program := "ytlbljdjbcbgnlaa", sum := "3bb9005b58e908a77a3e46a4651b9c4e3cd4079328b359a13df72a6a87ff8999", func := "maskwright/masklaw4.ExactDivides", spec := "exactDivides", inPlace := ["internal/abi.NoEscape"], recurses := true, apart := false, narrowed := true }
def ExactDividesUptoSaid : Prop := exactDividesUptoRow.holds Try.pinned (OpenSpec.upto exactDividesSpec)

/-- 'masklaw4.ExactAdds', WHERE WHAT IT READS IS OF BULK AT MOST 1048576: true; the input reads as it did. -/
def exactAddsUptoRow : OpenClaim := { program := "ytlbljdjbcbgnlaa", sum := "3bb9005b58e908a77a3e46a4651b9c4e3cd4079328b359a13df72a6a87ff8999", func := "maskwright/masklaw4.ExactAdds", spec := "exactAdds", inPlace := ["internal/abi.NoEscape"], recurses := true, apart := false, narrowed := true }
def ExactAddsUptoSaid : Prop := exactAddsUptoRow.holds Try.pinned (OpenSpec.upto exactAddsSpec)

/-- 'masklaw4.ExactBroken', WHERE WHAT IT READS IS OF BULK AT MOST 1048576: true; the input reads as it did. -/
def exactBrokenUptoRow : OpenClaim := { program := "ytlbljdjbcbgnlaa", sum := "3bb9005b58e908a77a3e46a4651b9c4e3cd4079328b359a13df72a6a87ff8999", func := "maskwright/masklaw4.ExactBroken", spec := "exactBroken", inPlace := ["internal/abi.NoEscape"], recurses := true, apart := false, narrowed := true }
def ExactBrokenUptoSaid : Prop := exactBrokenUptoRow.holds Try.pinned (OpenSpec.upto exactBrokenSpec)

/-- 'masklaw4.ExactRatios', WHERE WHAT IT READS IS OF BULK AT MOST 1048576: true; the input reads as it did. -/
def exactRatiosUptoRow : OpenClaim := { program := "ytlbljdjbcbgnlaa", sum := "3bb9005b58e908a77a3e46a4651b9c4e3cd4079328b359a13df72a6a87ff8999", func := "maskwright/masklaw4.ExactRatios", spec := "exactRatios", inPlace := ["internal/abi.NoEscape"], recurses := true, apart := false, narrowed := true }
def ExactRatiosUptoSaid : Prop := exactRatiosUptoRow.holds Try.pinned (OpenSpec.upto exactRatiosSpec)

end Rows
end Go.Proofs.Ytlbljdjbcbgnlaa
