/-
  DERIVED. GIVEN WITH THE SEED: THE CARDS: each row of YtjafifcfbhbklaaGreatDoorRows.lean that lists a variable, with what it lists TIED to the program's text (the seventh form; the later family's looks); each row that meets fmt, with fmt's text TOLD by the authors' own Lean function (tested against real Go, not proved from fmt's source: count such statements apart). THE CARD IS WHAT COUNTS. Prove the row's statement (the work); the ties are given (YtjafifcfbhbklaaGreatDoorTie.lean); close each card by the builder's one call (the guide's Derived/Test/ToyasCard.lean, 'card_holds'). Laid BY PROGRAM, IN A SANDBOX (cutbox-door.mjs). By AI agents, Wed Nov 11 2026. No macro, syntax, notation, axiom, sorry.
-/
import Derived.Test.YtjafifcfbhbklaaGreatDoorRows
import GoSem.ClaimSeven
namespace Go.Proofs.YtjafifcfbhbklaaGreatDoor
namespace Rows

/-- THE TIED CARD OF 'orrerylaw28.LowerKnown'. -/
def lowerKnownCard : Claim7 := { stood := { row := lowerKnownRow, standIns := [], harness := (true, "60aae8c577894737342af750bd0885dd0d30b0636223ddb539149588134bf3c6"), looks := true }, kinds := [], alts := [], laidByText := true, laidKinds := [.data, .data, .data, .sentinel, .sentinel, .widerDeep, .mapped, .mapped, .data, .data, .data, .mapped, .mapped], laidTests := true, laidLooks := .later }
def LowerKnownCardSaid : Prop := Claim7.holds Tryz.pinned (.plain (OpenSpec.ofChange lowerKnownSpec)) lowerKnownCard

/-- THE SECOND FORM's CARD OF 'orrerylaw28.LowerKnown'. -/
def lowerKnownUptoCard : Claim7 := { stood := { row := lowerKnownUptoRow, standIns := [], harness := (true, "60aae8c577894737342af750bd0885dd0d30b0636223ddb539149588134bf3c6"), looks := true }, kinds := [], alts := [], laidByText := true, laidKinds := [.data, .data, .data, .sentinel, .sentinel, .widerDeep, .mapped, .mapped, .data, .data, .data, .mapped, .mapped], laidTests := true, laidLooks := .later }
def LowerKnownUptoCardSaid : Prop := Claim7.holds Tryz.pinned (.plain (OpenSpec.upto lowerKnownSpec)) lowerKnownUptoCard
end Rows
end Go.Proofs.YtjafifcfbhbklaaGreatDoor
