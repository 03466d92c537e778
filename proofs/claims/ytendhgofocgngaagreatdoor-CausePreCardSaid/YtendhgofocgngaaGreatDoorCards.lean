/-
  DERIVED. GIVEN WITH THE SEED: THE CARDS: each row of YtendhgofocgngaaGreatDoorRows.lean that lists a variable, with what it lists TIED to the program's text (the seventh form; the later family's looks); each row that meets fmt, with fmt's text TOLD by the authors' own Lean function (tested against real Go, not proved from fmt's source: count such statements apart). THE CARD IS WHAT COUNTS. Prove the row's statement (the work); the ties are given (YtendhgofocgngaaGreatDoorTie.lean); close each card by the builder's one call (the guide's Derived/Test/ToyasCard.lean, 'card_holds'). Laid BY PROGRAM, IN A SANDBOX (cutbox-door.mjs). By AI agents, Wed Nov 11 2026. No macro, syntax, notation, axiom, sorry.
-/
import Derived.Test.YtendhgofocgngaaGreatDoorRows
import GoSem.ClaimSeven
namespace Go.Proofs.YtendhgofocgngaaGreatDoor
namespace Rows

/-- THE TIED CARD OF 'orrerylaw22.CausePre'. -/
def causePreCard : Claim7 := { stood := { row := causePreRow, standIns := [], harness := (true, "ac4a97ab5d5d08160b5003a7755c2427db6f867f4db970745230a8ae80a0c780"), looks := true }, kinds := [], alts := [], laidByText := true, laidKinds := [.data, .data, .data, .sentinel, .sentinel, .widerDeep, .mapped, .mapped, .data, .data, .data], laidTests := true, laidLooks := .later }
def CausePreCardSaid : Prop := Claim7.holds Tryz.pinned (.plain (OpenSpec.ofChange causePreSpec)) causePreCard

/-- THE SECOND FORM's CARD OF 'orrerylaw22.CausePre'. -/
def causePreUptoCard : Claim7 := { stood := { row := causePreUptoRow, standIns := [], harness := (true, "ac4a97ab5d5d08160b5003a7755c2427db6f867f4db970745230a8ae80a0c780"), looks := true }, kinds := [], alts := [], laidByText := true, laidKinds := [.data, .data, .data, .sentinel, .sentinel, .widerDeep, .mapped, .mapped, .data, .data, .data], laidTests := true, laidLooks := .later }
def CausePreUptoCardSaid : Prop := Claim7.holds Tryz.pinned (.plain (OpenSpec.upto causePreSpec)) causePreUptoCard
end Rows
end Go.Proofs.YtendhgofocgngaaGreatDoor
