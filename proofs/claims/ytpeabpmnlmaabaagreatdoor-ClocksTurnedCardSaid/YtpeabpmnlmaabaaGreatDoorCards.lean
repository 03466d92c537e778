/-
  DERIVED. GIVEN WITH THE SEED: THE CARDS: each row of YtpeabpmnlmaabaaGreatDoorRows.lean that lists a variable, with what it lists TIED to the program's text (the seventh form; the later family's looks); each row that meets fmt, with fmt's text TOLD by the authors' own Lean function (tested against real Go, not proved from fmt's source: count such statements apart). THE CARD IS WHAT COUNTS. Prove the row's statement (the work); the ties are given (YtpeabpmnlmaabaaGreatDoorTie.lean); close each card by the builder's one call (the guide's Derived/Test/ToyasCard.lean, 'card_holds'). Laid BY PROGRAM, IN A SANDBOX (cutbox-door.mjs). By AI agents, Wed Nov 11 2026. No macro, syntax, notation, axiom, sorry.
-/
import Derived.Test.YtpeabpmnlmaabaaGreatDoorRows
import GoSem.ClaimSeven
namespace Go.Proofs.YtpeabpmnlmaabaaGreatDoor
namespace Rows

/-- THE TIED CARD OF 'orrerylaw20.ClocksBelow'. -/
def clocksBelowCard : Claim7 := { stood := { row := clocksBelowRow, standIns := [], harness := (true, "a2e3f975ee3b4ff1efaaa415af2d507cfd6a8806427675451066f94ee452bda4"), looks := true }, kinds := [], alts := [], laidByText := true, laidKinds := [.data, .data, .data, .sentinel, .sentinel, .widerDeep, .mapped, .mapped, .data, .data, .data], laidTests := true, laidLooks := .later }
def ClocksBelowCardSaid : Prop := Claim7.holds Tryz.pinned (.plain (OpenSpec.ofChange clocksBelowSpec)) clocksBelowCard

/-- THE TIED CARD OF 'orrerylaw20.ClocksTurned'. -/
def clocksTurnedCard : Claim7 := { stood := { row := clocksTurnedRow, standIns := [], harness := (true, "a2e3f975ee3b4ff1efaaa415af2d507cfd6a8806427675451066f94ee452bda4"), looks := true }, kinds := [], alts := [], laidByText := true, laidKinds := [.data, .data, .data, .sentinel, .sentinel, .widerDeep, .mapped, .mapped, .data, .data, .data], laidTests := true, laidLooks := .later }
def ClocksTurnedCardSaid : Prop := Claim7.holds Tryz.pinned (.plain (OpenSpec.ofChange clocksTurnedSpec)) clocksTurnedCard

/-- THE TIED CARD OF 'orrerylaw20.ClocksChains'. -/
def clocksChainsCard : Claim7 := { stood := { row := clocksChainsRow, standIns := [], harness := (true, "a2e3f975ee3b4ff1efaaa415af2d507cfd6a8806427675451066f94ee452bda4"), looks := true }, kinds := [], alts := [], laidByText := true, laidKinds := [.data, .data, .data, .sentinel, .sentinel, .widerDeep, .mapped, .mapped, .data, .data, .data], laidTests := true, laidLooks := .later }
def ClocksChainsCardSaid : Prop := Claim7.holds Tryz.pinned (.plain (OpenSpec.ofChange clocksChainsSpec)) clocksChainsCard

/-- THE SECOND FORM's CARD OF 'orrerylaw20.ClocksBelow'. -/
def clocksBelowUptoCard : Claim7 := { stood := { row := clocksBelowUptoRow, standIns := [], harness := (true, "a2e3f975ee3b4ff1efaaa415af2d507cfd6a8806427675451066f94ee452bda4"), looks := true }, kinds := [], alts := [], laidByText := true, laidKinds := [.data, .data, .data, .sentinel, .sentinel, .widerDeep, .mapped, .mapped, .data, .data, .data], laidTests := true, laidLooks := .later }
def ClocksBelowUptoCardSaid : Prop := Claim7.holds Tryz.pinned (.plain (OpenSpec.upto clocksBelowSpec)) clocksBelowUptoCard

/-- THE SECOND FORM's CARD OF 'orrerylaw20.ClocksTurned'. -/
def clocksTurnedUptoCard : Claim7 := { stood := { row := clocksTurnedUptoRow, standIns := [], harness := (true, "a2e3f975ee3b4ff1efaaa415af2d507cfd6a8806427675451066f94ee452bda4"), looks := true }, kinds := [], alts := [], laidByText := true, laidKinds := [.data, .data, .data, .sentinel, .sentinel, .widerDeep, .mapped, .mapped, .data, .data, .data], laidTests := true, laidLooks := .later }
def ClocksTurnedUptoCardSaid : Prop := Claim7.holds Tryz.pinned (.plain (OpenSpec.upto clocksTurnedSpec)) clocksTurnedUptoCard

/-- THE SECOND FORM's CARD OF 'orrerylaw20.ClocksChains'. -/
def clocksChainsUptoCard : Claim7 := { stood := { row := clocksChainsUptoRow, standIns := [], harness := (true, "a2e3f975ee3b4ff1efaaa415af2d507cfd6a8806427675451066f94ee452bda4"), looks := true }, kinds := [], alts := [], laidByText := true, laidKinds := [.data, .data, .data, .sentinel, .sentinel, .widerDeep, .mapped, .mapped, .data, .data, .data], laidTests := true, laidLooks := .later }
def ClocksChainsUptoCardSaid : Prop := Claim7.holds Tryz.pinned (.plain (OpenSpec.upto clocksChainsSpec)) clocksChainsUptoCard
end Rows
end Go.Proofs.YtpeabpmnlmaabaaGreatDoor
