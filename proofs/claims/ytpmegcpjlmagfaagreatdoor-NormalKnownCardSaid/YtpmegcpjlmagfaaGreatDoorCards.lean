/-
  DERIVED. GIVEN WITH THE SEED: THE CARDS: each row of YtpmegcpjlmagfaaGreatDoorRows.lean that lists a variable, with what it lists TIED to the program's text (the seventh form; the later family's looks); each row that meets fmt, with fmt's text TOLD by the authors' own Lean function (tested against real Go, not proved from fmt's source: count such statements apart). THE CARD IS WHAT COUNTS. Prove the row's statement (the work); the ties are given (YtpmegcpjlmagfaaGreatDoorTie.lean); close each card by the builder's one call (the guide's Derived/Test/ToyasCard.lean, 'card_holds'). Laid BY PROGRAM, IN A SANDBOX (cutbox-door.mjs). By AI agents, Wed Nov 11 2026. No macro, syntax, notation, axiom, sorry.
-/
import Derived.Test.YtpmegcpjlmagfaaGreatDoorRows
import GoSem.ClaimSeven
namespace Go.Proofs.YtpmegcpjlmagfaaGreatDoor
namespace Rows

/-- THE TIED CARD OF 'orrerylaw25.NormalKnown'. -/
def normalKnownCard : Claim7 := { stood := { row := normalKnownRow, standIns := [], harness := (true, "a1190647170f39dc39e48c3a99bcc0b15013fe34d3e2223e77ed69f06908943c"), looks := true }, kinds := [], alts := [], laidByText := true, laidKinds := [.data, .data, .data, .sentinel, .sentinel, .widerDeep, .mapped, .mapped, .data, .data, .data], laidTests := true, laidLooks := .later }
def NormalKnownCardSaid : Prop := Claim7.holds Tryz.pinned (.plain (OpenSpec.ofChange normalKnownSpec)) normalKnownCard

/-- THE SECOND FORM's CARD OF 'orrerylaw25.NormalKnown'. -/
def normalKnownUptoCard : Claim7 := { stood := { row := normalKnownUptoRow, standIns := [], harness := (true, "a1190647170f39dc39e48c3a99bcc0b15013fe34d3e2223e77ed69f06908943c"), looks := true }, kinds := [], alts := [], laidByText := true, laidKinds := [.data, .data, .data, .sentinel, .sentinel, .widerDeep, .mapped, .mapped, .data, .data, .data], laidTests := true, laidLooks := .later }
def NormalKnownUptoCardSaid : Prop := Claim7.holds Tryz.pinned (.plain (OpenSpec.upto normalKnownSpec)) normalKnownUptoCard
end Rows
end Go.Proofs.YtpmegcpjlmagfaaGreatDoor
