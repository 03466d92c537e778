/-
  DERIVED. GIVEN WITH THE SEED: THE CARDS: each row of YtfaiekpkahconaaGreatDoorRows.lean that lists a variable, with what it lists TIED to the program's text (the seventh form; the later family's looks); each row that meets fmt, with fmt's text TOLD by the authors' own Lean function (tested against real Go, not proved from fmt's source: count such statements apart). THE CARD IS WHAT COUNTS. Prove the row's statement (the work); the ties are given (YtfaiekpkahconaaGreatDoorTie.lean); close each card by the builder's one call (the guide's Derived/Test/ToyasCard.lean, 'card_holds'). Laid BY PROGRAM, IN A SANDBOX (cutbox-door.mjs). By AI agents, Wed Nov 11 2026. No macro, syntax, notation, axiom, sorry.
-/
import Derived.Test.YtfaiekpkahconaaGreatDoorRows
import GoSem.ClaimSeven
namespace Go.Proofs.YtfaiekpkahconaaGreatDoor
namespace Rows

/-- THE TIED CARD OF 'orrerylaw19.TypesKnown'. -/
def typesKnownCard : Claim7 := { stood := { row := typesKnownRow, standIns := [], harness := (true, "32722631dfbc85495f1d34ed15113e89894273592cfe47897a5a50085252d958"), looks := true }, kinds := [], alts := [], laidByText := true, laidKinds := [.data, .data, .data, .sentinel, .sentinel, .widerDeep, .mapped, .mapped, .data, .data, .data], laidTests := true, laidLooks := .later }
def TypesKnownCardSaid : Prop := Claim7.holds Tryz.pinned (.plain (OpenSpec.ofChange typesKnownSpec)) typesKnownCard

/-- THE SECOND FORM's CARD OF 'orrerylaw19.TypesKnown'. -/
def typesKnownUptoCard : Claim7 := { stood := { row := typesKnownUptoRow, standIns := [], harness := (true, "32722631dfbc85495f1d34ed15113e89894273592cfe47897a5a50085252d958"), looks := true }, kinds := [], alts := [], laidByText := true, laidKinds := [.data, .data, .data, .sentinel, .sentinel, .widerDeep, .mapped, .mapped, .data, .data, .data], laidTests := true, laidLooks := .later }
def TypesKnownUptoCardSaid : Prop := Claim7.holds Tryz.pinned (.plain (OpenSpec.upto typesKnownSpec)) typesKnownUptoCard
end Rows
end Go.Proofs.YtfaiekpkahconaaGreatDoor
