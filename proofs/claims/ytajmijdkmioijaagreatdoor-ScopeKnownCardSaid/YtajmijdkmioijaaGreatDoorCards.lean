/-
  DERIVED. GIVEN WITH THE SEED: THE CARDS: each row of YtajmijdkmioijaaGreatDoorRows.lean that lists a variable, with what it lists TIED to the program's text (the seventh form; the later family's looks); each row that meets fmt, with fmt's text TOLD by the authors' own Lean function (tested against real Go, not proved from fmt's source: count such statements apart). THE CARD IS WHAT COUNTS. Prove the row's statement (the work); the ties are given (YtajmijdkmioijaaGreatDoorTie.lean); close each card by the builder's one call (the guide's Derived/Test/ToyasCard.lean, 'card_holds'). Laid BY PROGRAM, IN A SANDBOX (cutbox-door.mjs). By AI agents, Wed Nov 11 2026. No macro, syntax, notation, axiom, sorry.
-/
import Derived.Test.YtajmijdkmioijaaGreatDoorRows
import GoSem.ClaimSeven
namespace Go.Proofs.YtajmijdkmioijaaGreatDoor
namespace Rows

/-- THE TIED CARD OF 'orrerylaw18.ScopeKnown'. -/
def scopeKnownCard : Claim7 := { stood := { row := scopeKnownRow, standIns := [], harness := (true, "e856628b34353a727ddff7c354d53b78be532420550c9f622478feba3a061b87"), looks := true }, kinds := [], alts := [], laidByText := true, laidKinds := [.data, .data, .data, .sentinel, .sentinel, .widerDeep, .mapped, .mapped, .data, .data], laidTests := true, laidLooks := .later }
def ScopeKnownCardSaid : Prop := Claim7.holds Tryz.pinned (.plain (OpenSpec.ofChange scopeKnownSpec)) scopeKnownCard

/-- THE SECOND FORM's CARD OF 'orrerylaw18.ScopeKnown'. -/
def scopeKnownUptoCard : Claim7 := { stood := { row := scopeKnownUptoRow, standIns := [], harness := (true, "e856628b34353a727ddff7c354d53b78be532420550c9f622478feba3a061b87"), looks := true }, kinds := [], alts := [], laidByText := true, laidKinds := [.data, .data, .data, .sentinel, .sentinel, .widerDeep, .mapped, .mapped, .data, .data], laidTests := true, laidLooks := .later }
def ScopeKnownUptoCardSaid : Prop := Claim7.holds Tryz.pinned (.plain (OpenSpec.upto scopeKnownSpec)) scopeKnownUptoCard
end Rows
end Go.Proofs.YtajmijdkmioijaaGreatDoor
