/-
  DERIVED. GIVEN WITH THE SEED: THE CARDS: each row of YtheimkmgpehlpaaGreatDoorRows.lean that lists a variable, with what it lists TIED to the program's text (the seventh form; the later family's looks); each row that meets fmt, with fmt's text TOLD by the authors' own Lean function (tested against real Go, not proved from fmt's source: count such statements apart). THE CARD IS WHAT COUNTS. Prove the row's statement (the work); the ties are given (YtheimkmgpehlpaaGreatDoorTie.lean); close each card by the builder's one call (the guide's Derived/Test/ToyasCard.lean, 'card_holds'). Laid BY PROGRAM, IN A SANDBOX (cutbox-door.mjs). By AI agents, Wed Nov 11 2026. No macro, syntax, notation, axiom, sorry.
-/
import Derived.Test.YtheimkmgpehlpaaGreatDoorRows
import GoSem.ClaimSeven
namespace Go.Proofs.YtheimkmgpehlpaaGreatDoor
namespace Rows

/-- THE TIED CARD OF 'orrerylaw20.ClocksKnown'. -/
def clocksKnownCard : Claim7 := { stood := { row := clocksKnownRow, standIns := [], harness := (true, "954241ecf8591f9ca6493cd9feca666d5f3ab281b52faa503c811d5927261da1"), looks := true }, kinds := [], alts := [], laidByText := true, laidKinds := [.data, .data, .data, .sentinel, .sentinel, .widerDeep, .mapped, .mapped, .data, .data, .data], laidTests := true, laidLooks := .later }
def ClocksKnownCardSaid : Prop := Claim7.holds Tryz.pinned (.plain (OpenSpec.ofChange clocksKnownSpec)) clocksKnownCard

/-- THE SECOND FORM's CARD OF 'orrerylaw20.ClocksKnown'. -/
def clocksKnownUptoCard : Claim7 := { stood := { row := clocksKnownUptoRow, standIns := [], harness := (true, "954241ecf8591f9ca6493cd9feca666d5f3ab281b52faa503c811d5927261da1"), looks := true }, kinds := [], alts := [], laidByText := true, laidKinds := [.data, .data, .data, .sentinel, .sentinel, .widerDeep, .mapped, .mapped, .data, .data, .data], laidTests := true, laidLooks := .later }
def ClocksKnownUptoCardSaid : Prop := Claim7.holds Tryz.pinned (.plain (OpenSpec.upto clocksKnownSpec)) clocksKnownUptoCard
end Rows
end Go.Proofs.YtheimkmgpehlpaaGreatDoor
