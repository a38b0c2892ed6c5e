/-
  DERIVED. GIVEN WITH THE SEED: THE CARDS: each row of YtpndeclljmdjkaaGreatDoorRows.lean that lists a variable, with what it lists TIED to the program's text (the seventh form; the later family's looks); each row that meets fmt, with fmt's text TOLD by the authors' own Lean function (tested against real Go, not proved from fmt's source: count such statements apart). THE CARD IS WHAT COUNTS. Prove the row's statement (the work); the ties are given (YtpndeclljmdjkaaGreatDoorTie.lean); close each card by the builder's one call (the guide's Derived/Test/ToyasCard.lean, 'card_holds'). Laid BY PROGRAM, IN A SANDBOX (cutbox-door.mjs). By AI agents, Wed Nov 11 2026. No macro, syntax, notation, axiom, sorry.
-/
import Derived.Test.YtpndeclljmdjkaaGreatDoorRows
import GoSem.ClaimSeven
namespace Go.Proofs.YtpndeclljmdjkaaGreatDoor
namespace Rows

/-- THE TIED CARD OF 'linchpinlaw21.BuildRows'. -/
def buildRowsCard : Claim7 := { stood := { row := buildRowsRow, standIns := [], harness := (true, "2d766218419452a960eb1e6a5bf963b09e8c273b379d80590df4530ca54e0510"), looks := true }, kinds := [], alts := [], laidByText := true, laidKinds := [.data, .data, .widerDeep, .widerDeep], laidTests := true, laidLooks := .later }
def BuildRowsCardSaid : Prop := Claim7.holds Tryz.pinned (.plain (OpenSpec.ofChange buildRowsSpec)) buildRowsCard

/-- THE SECOND FORM's CARD OF 'linchpinlaw21.BuildRows'. -/
def buildRowsUptoCard : Claim7 := { stood := { row := buildRowsUptoRow, standIns := [], harness := (true, "2d766218419452a960eb1e6a5bf963b09e8c273b379d80590df4530ca54e0510"), looks := true }, kinds := [], alts := [], laidByText := true, laidKinds := [.data, .data, .widerDeep, .widerDeep], laidTests := true, laidLooks := .later }
def BuildRowsUptoCardSaid : Prop := Claim7.holds Tryz.pinned (.plain (OpenSpec.upto buildRowsSpec)) buildRowsUptoCard
end Rows
end Go.Proofs.YtpndeclljmdjkaaGreatDoor
