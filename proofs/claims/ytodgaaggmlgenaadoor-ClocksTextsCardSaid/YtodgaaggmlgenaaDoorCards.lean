/-
  DERIVED. GIVEN WITH THE SEED: THE CARDS: each row of YtodgaaggmlgenaaDoorRows.lean that lists a variable, with what it lists TIED to the program's text (the seventh form; the later family's looks); each row that meets fmt, with fmt's text TOLD by the authors' own Lean function (tested against real Go, not proved from fmt's source: count such statements apart). THE CARD IS WHAT COUNTS. Prove the row's statement (the work); the ties are given (YtodgaaggmlgenaaDoorTie.lean); close each card by the builder's one call (the guide's Derived/Test/ToyasCard.lean, 'card_holds'). Laid BY PROGRAM, IN A SANDBOX (cutbox-door.mjs). By AI agents, Wed Nov 11 2026. No macro, syntax, notation, axiom, sorry.
-/
import Derived.Test.YtodgaaggmlgenaaDoorRows
import GoSem.ClaimSeven
namespace Go.Proofs.YtodgaaggmlgenaaDoor
namespace Rows

/-- THE TIED CARD OF 'masklaw4.ClocksAsks'. -/
def clocksAsksCard : Claim7 := { stood := { row := clocksAsksRow, standIns := [], harness := (true, "d55ca2e971dbb665f122fc2087bce32a1b0f37b9dfa3f1c4ab190534bbbe1075"), looks := false }, kinds := [], alts := [], laidByText := true, laidKinds := [.data, .data, .data], laidTests := true, laidLooks := .later }
def ClocksAsksCardSaid : Prop := Claim7.holds Tryd.pinned (.plain (OpenSpec.ofChange clocksAsksSpec)) clocksAsksCard

/-- THE TIED CARD OF 'masklaw4.ClocksTexts'. -/
def clocksTextsCard : Claim7 := { stood := { row := clocksTextsRow, standIns := [], harness := (true, "d55ca2e971dbb665f122fc2087bce32a1b0f37b9dfa3f1c4ab190534bbbe1075"), looks := false }, kinds := [], alts := [], laidByText := true, laidKinds := [.data, .data, .data], laidTests := true, laidLooks := .later }
def ClocksTextsCardSaid : Prop := Claim7.holds Tryd.pinned (.plain (OpenSpec.ofChange clocksTextsSpec)) clocksTextsCard

/-- THE TIED CARD OF 'masklaw4.ClocksChecks'. -/
def clocksChecksCard : Claim7 := { stood := { row := clocksChecksRow, standIns := [], harness := (true, "d55ca2e971dbb665f122fc2087bce32a1b0f37b9dfa3f1c4ab190534bbbe1075"), looks := false }, kinds := [], alts := [], laidByText := true, laidKinds := [.data, .data, .data], laidTests := true, laidLooks := .later }
def ClocksChecksCardSaid : Prop := Claim7.holds Tryd.pinned (.plain (OpenSpec.ofChange clocksChecksSpec)) clocksChecksCard

/-- THE SECOND FORM's CARD OF 'masklaw4.ClocksAsks'. -/
def clocksAsksUptoCard : Claim7 := { stood := { row := clocksAsksUptoRow, standIns := [], harness := (true, "d55ca2e971dbb665f122fc2087bce32a1b0f37b9dfa3f1c4ab190534bbbe1075"), looks := false }, kinds := [], alts := [], laidByText := true, laidKinds := [.data, .data, .data], laidTests := true, laidLooks := .later }
def ClocksAsksUptoCardSaid : Prop := Claim7.holds Tryd.pinned (.plain (OpenSpec.upto clocksAsksSpec)) clocksAsksUptoCard

/-- THE SECOND FORM's CARD OF 'masklaw4.ClocksTexts'. -/
def clocksTextsUptoCard : Claim7 := { stood := { row := clocksTextsUptoRow, standIns := [], harness := (true, "d55ca2e971dbb665f122fc2087bce32a1b0f37b9dfa3f1c4ab190534bbbe1075"), looks := false }, kinds := [], alts := [], laidByText := true, laidKinds := [.data, .data, .data], laidTests := true, laidLooks := .later }
def ClocksTextsUptoCardSaid : Prop := Claim7.holds Tryd.pinned (.plain (OpenSpec.upto clocksTextsSpec)) clocksTextsUptoCard

/-- THE SECOND FORM's CARD OF 'masklaw4.ClocksChecks'. -/
def clocksChecksUptoCard : Claim7 := { stood := { row := clocksChecksUptoRow, standIns := [], harness := (true, "d55ca2e971dbb665f122fc2087bce32a1b0f37b9dfa3f1c4ab190534bbbe1075"), looks := false }, kinds := [], alts := [], laidByText := true, laidKinds := [.data, .data, .data], laidTests := true, laidLooks := .later }
def ClocksChecksUptoCardSaid : Prop := Claim7.holds Tryd.pinned (.plain (OpenSpec.upto clocksChecksSpec)) clocksChecksUptoCard
end Rows
end Go.Proofs.YtodgaaggmlgenaaDoor
