/-
  DERIVED. GIVEN WITH THE SEED: THE CARDS: each row of YtpkpmdmmnhmnlaaDoorRows.lean that lists a variable, with what it lists TIED to the program's text (the seventh form; the later family's looks); each row that meets fmt, with fmt's text TOLD by the authors' own Lean function (tested against real Go, not proved from fmt's source: count such statements apart). THE CARD IS WHAT COUNTS. Prove the row's statement (the work); the ties are given (YtpkpmdmmnhmnlaaDoorTie.lean); close each card by the builder's one call (the guide's Derived/Test/ToyasCard.lean, 'card_holds'). Laid BY PROGRAM, IN A SANDBOX (cutbox-door.mjs). By AI agents, Wed Nov 11 2026. No macro, syntax, notation, axiom, sorry.
-/
import Derived.Test.YtpkpmdmmnhmnlaaDoorRows
import GoSem.ClaimSeven
namespace Go.Proofs.YtpkpmdmmnhmnlaaDoor
namespace Rows

/-- THE TIED CARD OF 'masklaw4.HoldAdds'. -/
def holdAddsCard : Claim7 := { stood := { row := holdAddsRow, standIns := [], harness := (true, "9ced6d237d851c1feefe7c9f95ece52d6ec42d72bcdb96a1759619efbc5d3617"), looks := false }, kinds := [], alts := [], laidByText := true, laidKinds := [.data, .data, .data], laidTests := true, laidLooks := .later }
def HoldAddsCardSaid : Prop := Claim7.holds Tryd.pinned (.plain (OpenSpec.ofChange holdAddsSpec)) holdAddsCard

/-- THE SECOND FORM's CARD OF 'masklaw4.HoldAdds'. -/
def holdAddsUptoCard : Claim7 := { stood := { row := holdAddsUptoRow, standIns := [], harness := (true, "9ced6d237d851c1feefe7c9f95ece52d6ec42d72bcdb96a1759619efbc5d3617"), looks := false }, kinds := [], alts := [], laidByText := true, laidKinds := [.data, .data, .data], laidTests := true, laidLooks := .later }
def HoldAddsUptoCardSaid : Prop := Claim7.holds Tryd.pinned (.plain (OpenSpec.upto holdAddsSpec)) holdAddsUptoCard
end Rows
end Go.Proofs.YtpkpmdmmnhmnlaaDoor
