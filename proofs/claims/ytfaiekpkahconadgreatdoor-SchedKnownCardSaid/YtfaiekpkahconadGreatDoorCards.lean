/-
  DERIVED. GIVEN WITH THE SEED: THE CARDS: each row of YtfaiekpkahconadGreatDoorRows.lean that lists a variable, with what it lists TIED to the program's text (the seventh form; the later family's looks); each row that meets fmt, with fmt's text TOLD by the authors' own Lean function (tested against real Go, not proved from fmt's source: count such statements apart). THE CARD IS WHAT COUNTS. Prove the row's statement (the work); the ties are given (YtfaiekpkahconadGreatDoorTie.lean); close each card by the builder's one call (the guide's Derived/Test/ToyasCard.lean, 'card_holds'). Laid BY PROGRAM, IN A SANDBOX (cutbox-door.mjs). By AI agents, Wed Nov 11 2026. No macro, syntax, notation, axiom, sorry.
-/
import Derived.Test.YtfaiekpkahconadGreatDoorRows
import GoSem.ClaimSeven
namespace Go.Proofs.YtfaiekpkahconadGreatDoor
namespace Rows

/-- THE TIED CARD OF 'orrerylaw26.SchedKnown'. -/
def schedKnownCard : Claim7 := { stood := { row := schedKnownRow, standIns := [], harness := (true, "f391db6a4bd0858871376a073959c285ce882865a71ac9cce3ab08a6e0e9e30d"), looks := true }, kinds := [], alts := [], laidByText := true, laidKinds := [.data, .data, .data, .sentinel, .sentinel, .widerDeep, .mapped, .mapped, .data, .data, .data, .mapped, .mapped], laidTests := true, laidLooks := .later }
def SchedKnownCardSaid : Prop := Claim7.holds Tryz.pinned (.plain (OpenSpec.ofChange schedKnownSpec)) schedKnownCard

/-- THE SECOND FORM's CARD OF 'orrerylaw26.SchedKnown'. -/
def schedKnownUptoCard : Claim7 := { stood := { row := schedKnownUptoRow, standIns := [], harness := (true, "f391db6a4bd0858871376a073959c285ce882865a71ac9cce3ab08a6e0e9e30d"), looks := true }, kinds := [], alts := [], laidByText := true, laidKinds := [.data, .data, .data, .sentinel, .sentinel, .widerDeep, .mapped, .mapped, .data, .data, .data, .mapped, .mapped], laidTests := true, laidLooks := .later }
def SchedKnownUptoCardSaid : Prop := Claim7.holds Tryz.pinned (.plain (OpenSpec.upto schedKnownSpec)) schedKnownUptoCard
end Rows
end Go.Proofs.YtfaiekpkahconadGreatDoor
