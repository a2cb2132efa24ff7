/-
  DERIVED. GIVEN WITH THE SEED: THE CARDS: each row of YthjdjjnpdeacgaaDoorRows.lean that lists a variable, with what it lists TIED to the program's text (the seventh form; the later family's looks); each row that meets fmt, with fmt's text TOLD by the authors' own Lean function (tested against real Go, not proved from fmt's source: count such statements apart). THE CARD IS WHAT COUNTS. Prove the row's statement (the work); the ties are given (YthjdjjnpdeacgaaDoorTie.lean); close each card by the builder's one call (the guide's Derived/Test/ToyasCard.lean, 'card_holds'). Laid BY PROGRAM, IN A SANDBOX (cutbox-door.mjs). By AI agents, Wed Nov 11 2026. No macro, syntax, notation, axiom, sorry.
-/
import Derived.Test.YthjdjjnpdeacgaaDoorRows
import GoSem.ClaimSeven
namespace Go.Proofs.YthjdjjnpdeacgaaDoor
namespace Rows

/-- THE TIED CARD OF 'masklaw4.TimingWorsts'. -/
def timingWorstsCard : Claim7 := { stood := { row := timingWorstsRow, standIns := [], harness := (true, "1d78f862ccc680a8d6dcd176ceb6fb1f1e96ec12378e5f036187cf479bfe717e"), looks := false }, kinds := [], alts := [], laidByText := true, laidKinds := [.data, .data, .data], laidTests := true, laidLooks := .later }
def TimingWorstsCardSaid : Prop := Claim7.holds Tryd.pinned (.plain (OpenSpec.ofChange timingWorstsSpec)) timingWorstsCard

/-- THE TIED CARD OF 'masklaw4.HoldBetter'. -/
def holdBetterCard : Claim7 := { stood := { row := holdBetterRow, standIns := [], harness := (true, "1d78f862ccc680a8d6dcd176ceb6fb1f1e96ec12378e5f036187cf479bfe717e"), looks := false }, kinds := [], alts := [], laidByText := true, laidKinds := [.data, .data, .data], laidTests := true, laidLooks := .later }
def HoldBetterCardSaid : Prop := Claim7.holds Tryd.pinned (.plain (OpenSpec.ofChange holdBetterSpec)) holdBetterCard

/-- THE SECOND FORM's CARD OF 'masklaw4.TimingWorsts'. -/
def timingWorstsUptoCard : Claim7 := { stood := { row := timingWorstsUptoRow, standIns := [], harness := (true, "1d78f862ccc680a8d6dcd176ceb6fb1f1e96ec12378e5f036187cf479bfe717e"), looks := false }, kinds := [], alts := [], laidByText := true, laidKinds := [.data, .data, .data], laidTests := true, laidLooks := .later }
def TimingWorstsUptoCardSaid : Prop := Claim7.holds Tryd.pinned (.plain (OpenSpec.upto timingWorstsSpec)) timingWorstsUptoCard

/-- THE SECOND FORM's CARD OF 'masklaw4.HoldBetter'. -/
def holdBetterUptoCard : Claim7 := { stood := { row := holdBetterUptoRow, standIns := [], harness := (true, "1d78f862ccc680a8d6dcd176ceb6fb1f1e96ec12378e5f036187cf479bfe717e"), looks := false }, kinds := [], alts := [], laidByText := true, laidKinds := [.data, .data, .data], laidTests := true, laidLooks := .later }
def HoldBetterUptoCardSaid : Prop := Claim7.holds Tryd.pinned (.plain (OpenSpec.upto holdBetterSpec)) holdBetterUptoCard
end Rows
end Go.Proofs.YthjdjjnpdeacgaaDoor
