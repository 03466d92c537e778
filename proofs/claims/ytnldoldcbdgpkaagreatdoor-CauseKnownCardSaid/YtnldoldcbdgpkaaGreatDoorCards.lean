/-
  DERIVED. GIVEN WITH THE SEED: THE CARDS: each row of YtnldoldcbdgpkaaGreatDoorRows.lean that lists a variable, with what it lists TIED to the program's text (the seventh form; the later family's looks); each row that meets fmt, with fmt's text TOLD by the authors' own Lean function (tested against real Go, not proved from fmt's source: count such statements apart). THE CARD IS WHAT COUNTS. Prove the row's statement (the work); the ties are given (YtnldoldcbdgpkaaGreatDoorTie.lean); close each card by the builder's one call (the guide's Derived/Test/ToyasCard.lean, 'card_holds'). Laid BY PROGRAM, IN A SANDBOX (cutbox-door.mjs). By AI agents, Wed Nov 11 2026. No macro, syntax, notation, axiom, sorry.
-/
import Derived.Test.YtnldoldcbdgpkaaGreatDoorRows
import GoSem.ClaimSeven
namespace Go.Proofs.YtnldoldcbdgpkaaGreatDoor
namespace Rows

/-- THE TIED CARD OF 'orrerylaw22.CauseKnown'. -/
def causeKnownCard : Claim7 := { stood := { row := causeKnownRow, standIns := [], harness := (true, "2d069604c0dfafffb1833cc8427f54d2c17aec8714a8391bdde75fca3ce38cf9"), looks := true }, kinds := [], alts := [], laidByText := true, laidKinds := [.data, .data, .data, .sentinel, .sentinel, .widerDeep, .mapped, .mapped, .data, .data, .data], laidTests := true, laidLooks := .later }
def CauseKnownCardSaid : Prop := Claim7.holds Tryz.pinned (.plain (OpenSpec.ofChange causeKnownSpec)) causeKnownCard

/-- THE SECOND FORM's CARD OF 'orrerylaw22.CauseKnown'. -/
def causeKnownUptoCard : Claim7 := { stood := { row := causeKnownUptoRow, standIns := [], harness := (true, "2d069604c0dfafffb1833cc8427f54d2c17aec8714a8391bdde75fca3ce38cf9"), looks := true }, kinds := [], alts := [], laidByText := true, laidKinds := [.data, .data, .data, .sentinel, .sentinel, .widerDeep, .mapped, .mapped, .data, .data, .data], laidTests := true, laidLooks := .later }
def CauseKnownUptoCardSaid : Prop := Claim7.holds Tryz.pinned (.plain (OpenSpec.upto causeKnownSpec)) causeKnownUptoCard
end Rows
end Go.Proofs.YtnldoldcbdgpkaaGreatDoor
