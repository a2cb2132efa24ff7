/-
  DERIVED. GIVEN WITH THE SEED: THE CARDS: each row of YtlegjcagkmjfjaaDoorRows.lean that lists a variable, with what it lists TIED to the program's text (the seventh form; the later family's looks); each row that meets fmt, with fmt's text TOLD by the authors' own Lean function (tested against real Go, not proved from fmt's source: count such statements apart). THE CARD IS WHAT COUNTS. Prove the row's statement (the work); the ties are given (YtlegjcagkmjfjaaDoorTie.lean); close each card by the builder's one call (the guide's Derived/Test/ToyasCard.lean, 'card_holds'). Laid BY PROGRAM, IN A SANDBOX (cutbox-door.mjs). By AI agents, Wed Nov 11 2026. No macro, syntax, notation, axiom, sorry.
-/
import Derived.Test.YtlegjcagkmjfjaaDoorRows
import GoSem.ClaimSeven
namespace Go.Proofs.YtlegjcagkmjfjaaDoor
namespace Rows

/-- THE TIED CARD OF 'masklaw4.TimingChecks'. -/
def timingChecksCard : Claim7 := { stood := { row := timingChecksRow, standIns := [], harness := (true, "4ef18ef6fc7505ea458ae0c23076fe7e8403d7ad5f45421b377c98738564e3b1"), looks := false }, kinds := [], alts := [], laidByText := true, laidKinds := [.data, .data, .data], laidTests := true, laidLooks := .later }
def TimingChecksCardSaid : Prop := Claim7.holds Tryd.pinned (.plain (OpenSpec.ofChange timingChecksSpec)) timingChecksCard

/-- THE SECOND FORM's CARD OF 'masklaw4.TimingChecks'. -/
def timingChecksUptoCard : Claim7 := { stood := { row := timingChecksUptoRow, standIns := [], harness := (true, "4ef18ef6fc7505ea458ae0c23076fe7e8403d7ad5f45421b377c98738564e3b1"), looks := false }, kinds := [], alts := [], laidByText := true, laidKinds := [.data, .data, .data], laidTests := true, laidLooks := .later }
def TimingChecksUptoCardSaid : Prop := Claim7.holds Tryd.pinned (.plain (OpenSpec.upto timingChecksSpec)) timingChecksUptoCard
end Rows
end Go.Proofs.YtlegjcagkmjfjaaDoor
