/-
  DERIVED. GIVEN WITH THE SEED: THE CARDS: each row of YtehmapikajmjaaaGreatDoorRows.lean that lists a variable, with what it lists TIED to the program's text (the seventh form; the later family's looks); each row that meets fmt, with fmt's text TOLD by the authors' own Lean function (tested against real Go, not proved from fmt's source: count such statements apart). THE CARD IS WHAT COUNTS. Prove the row's statement (the work); the ties are given (YtehmapikajmjaaaGreatDoorTie.lean); close each card by the builder's one call (the guide's Derived/Test/ToyasCard.lean, 'card_holds'). Laid BY PROGRAM, IN A SANDBOX (cutbox-door.mjs). By AI agents, Wed Nov 11 2026. No macro, syntax, notation, axiom, sorry.
-/
import Derived.Test.YtehmapikajmjaaaGreatDoorRows
import GoSem.ClaimSeven
namespace Go.Proofs.YtehmapikajmjaaaGreatDoor
namespace Rows

/-- THE TIED CARD OF 'orrerylaw22.CauseRound'. -/
def causeRoundCard : Claim7 := { stood := { row := causeRoundRow, standIns := [], harness := (true, "4c78a9ea2945f95b27770c1b460eeb00a49f8b8a1084fba032b894ef8845d3a6"), looks := true }, kinds := [], alts := [], laidByText := true, laidKinds := [.data, .data, .data, .sentinel, .sentinel, .widerDeep, .mapped, .mapped, .data, .data, .data], laidTests := true, laidLooks := .later }
def CauseRoundCardSaid : Prop := Claim7.holds Tryz.pinned (.plain (OpenSpec.ofChange causeRoundSpec)) causeRoundCard

/-- THE TIED CARD OF 'orrerylaw22.CauseOrder'. -/
def causeOrderCard : Claim7 := { stood := { row := causeOrderRow, standIns := [], harness := (true, "4c78a9ea2945f95b27770c1b460eeb00a49f8b8a1084fba032b894ef8845d3a6"), looks := true }, kinds := [], alts := [], laidByText := true, laidKinds := [.data, .data, .data, .sentinel, .sentinel, .widerDeep, .mapped, .mapped, .data, .data, .data], laidTests := true, laidLooks := .later }
def CauseOrderCardSaid : Prop := Claim7.holds Tryz.pinned (.plain (OpenSpec.ofChange causeOrderSpec)) causeOrderCard

/-- THE SECOND FORM's CARD OF 'orrerylaw22.CauseRound'. -/
def causeRoundUptoCard : Claim7 := { stood := { row := causeRoundUptoRow, standIns := [], harness := (true, "4c78a9ea2945f95b27770c1b460eeb00a49f8b8a1084fba032b894ef8845d3a6"), looks := true }, kinds := [], alts := [], laidByText := true, laidKinds := [.data, .data, .data, .sentinel, .sentinel, .widerDeep, .mapped, .mapped, .data, .data, .data], laidTests := true, laidLooks := .later }
def CauseRoundUptoCardSaid : Prop := Claim7.holds Tryz.pinned (.plain (OpenSpec.upto causeRoundSpec)) causeRoundUptoCard

/-- THE SECOND FORM's CARD OF 'orrerylaw22.CauseOrder'. -/
def causeOrderUptoCard : Claim7 := { stood := { row := causeOrderUptoRow, standIns := [], harness := (true, "4c78a9ea2945f95b27770c1b460eeb00a49f8b8a1084fba032b894ef8845d3a6"), looks := true }, kinds := [], alts := [], laidByText := true, laidKinds := [.data, .data, .data, .sentinel, .sentinel, .widerDeep, .mapped, .mapped, .data, .data, .data], laidTests := true, laidLooks := .later }
def CauseOrderUptoCardSaid : Prop := Claim7.holds Tryz.pinned (.plain (OpenSpec.upto causeOrderSpec)) causeOrderUptoCard
end Rows
end Go.Proofs.YtehmapikajmjaaaGreatDoor
