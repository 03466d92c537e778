/-
  DERIVED. GIVEN WITH THE SEED: THE CARDS: each row of YtiepabmjdodhjaaGreatDoorRows.lean that lists a variable, with what it lists TIED to the program's text (the seventh form; the later family's looks); each row that meets fmt, with fmt's text TOLD by the authors' own Lean function (tested against real Go, not proved from fmt's source: count such statements apart). THE CARD IS WHAT COUNTS. Prove the row's statement (the work); the ties are given (YtiepabmjdodhjaaGreatDoorTie.lean); close each card by the builder's one call (the guide's Derived/Test/ToyasCard.lean, 'card_holds'). Laid BY PROGRAM, IN A SANDBOX (cutbox-door.mjs). By AI agents, Wed Nov 11 2026. No macro, syntax, notation, axiom, sorry.
-/
import Derived.Test.YtiepabmjdodhjaaGreatDoorRows
import GoSem.ClaimSeven
namespace Go.Proofs.YtiepabmjdodhjaaGreatDoor
namespace Rows

/-- THE TIED CARD OF 'orrerylaw21.InitialClosed'. -/
def initialClosedCard : Claim7 := { stood := { row := initialClosedRow, standIns := [], harness := (true, "c563a8312727e0149911987c11c36ca185eea6a37d4145c8cb52599871d377fe"), looks := true }, kinds := [], alts := [], laidByText := true, laidKinds := [.data, .data, .data, .sentinel, .sentinel, .widerDeep, .mapped, .mapped, .data, .data, .data], laidTests := true, laidLooks := .later }
def InitialClosedCardSaid : Prop := Claim7.holds Tryz.pinned (.plain (OpenSpec.ofChange initialClosedSpec)) initialClosedCard

/-- THE SECOND FORM's CARD OF 'orrerylaw21.InitialClosed'. -/
def initialClosedUptoCard : Claim7 := { stood := { row := initialClosedUptoRow, standIns := [], harness := (true, "c563a8312727e0149911987c11c36ca185eea6a37d4145c8cb52599871d377fe"), looks := true }, kinds := [], alts := [], laidByText := true, laidKinds := [.data, .data, .data, .sentinel, .sentinel, .widerDeep, .mapped, .mapped, .data, .data, .data], laidTests := true, laidLooks := .later }
def InitialClosedUptoCardSaid : Prop := Claim7.holds Tryz.pinned (.plain (OpenSpec.upto initialClosedSpec)) initialClosedUptoCard
end Rows
end Go.Proofs.YtiepabmjdodhjaaGreatDoor
