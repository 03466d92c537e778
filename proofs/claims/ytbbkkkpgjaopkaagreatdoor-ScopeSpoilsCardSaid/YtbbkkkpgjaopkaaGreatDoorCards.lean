/-
  DERIVED. GIVEN WITH THE SEED: THE CARDS: each row of YtbbkkkpgjaopkaaGreatDoorRows.lean that lists a variable, with what it lists TIED to the program's text (the seventh form; the later family's looks); each row that meets fmt, with fmt's text TOLD by the authors' own Lean function (tested against real Go, not proved from fmt's source: count such statements apart). THE CARD IS WHAT COUNTS. Prove the row's statement (the work); the ties are given (YtbbkkkpgjaopkaaGreatDoorTie.lean); close each card by the builder's one call (the guide's Derived/Test/ToyasCard.lean, 'card_holds'). Laid BY PROGRAM, IN A SANDBOX (cutbox-door.mjs). By AI agents, Wed Nov 11 2026. No macro, syntax, notation, axiom, sorry.
-/
import Derived.Test.YtbbkkkpgjaopkaaGreatDoorRows
import GoSem.ClaimSeven
namespace Go.Proofs.YtbbkkkpgjaopkaaGreatDoor
namespace Rows

/-- THE TIED CARD OF 'orrerylaw18.ScopeRenames'. -/
def scopeRenamesCard : Claim7 := { stood := { row := scopeRenamesRow, standIns := [], harness := (true, "826157fa1e9cb012af60c6fc49428a2e6a08a2fa13e9d0261a07eacfe71388b9"), looks := true }, kinds := [], alts := [], laidByText := true, laidKinds := [.data, .data, .data, .sentinel, .sentinel, .widerDeep, .mapped, .mapped, .data, .data], laidTests := true, laidLooks := .later }
def ScopeRenamesCardSaid : Prop := Claim7.holds Tryz.pinned (.plain (OpenSpec.ofChange scopeRenamesSpec)) scopeRenamesCard

/-- THE TIED CARD OF 'orrerylaw18.ScopeSpoils'. -/
def scopeSpoilsCard : Claim7 := { stood := { row := scopeSpoilsRow, standIns := [], harness := (true, "826157fa1e9cb012af60c6fc49428a2e6a08a2fa13e9d0261a07eacfe71388b9"), looks := true }, kinds := [], alts := [], laidByText := true, laidKinds := [.data, .data, .data, .sentinel, .sentinel, .widerDeep, .mapped, .mapped, .data, .data], laidTests := true, laidLooks := .later }
def ScopeSpoilsCardSaid : Prop := Claim7.holds Tryz.pinned (.plain (OpenSpec.ofChange scopeSpoilsSpec)) scopeSpoilsCard

/-- THE SECOND FORM's CARD OF 'orrerylaw18.ScopeRenames'. -/
def scopeRenamesUptoCard : Claim7 := { stood := { row := scopeRenamesUptoRow, standIns := [], harness := (true, "826157fa1e9cb012af60c6fc49428a2e6a08a2fa13e9d0261a07eacfe71388b9"), looks := true }, kinds := [], alts := [], laidByText := true, laidKinds := [.data, .data, .data, .sentinel, .sentinel, .widerDeep, .mapped, .mapped, .data, .data], laidTests := true, laidLooks := .later }
def ScopeRenamesUptoCardSaid : Prop := Claim7.holds Tryz.pinned (.plain (OpenSpec.upto scopeRenamesSpec)) scopeRenamesUptoCard

/-- THE SECOND FORM's CARD OF 'orrerylaw18.ScopeSpoils'. -/
def scopeSpoilsUptoCard : Claim7 := { stood := { row := scopeSpoilsUptoRow, standIns := [], harness := (true, "826157fa1e9cb012af60c6fc49428a2e6a08a2fa13e9d0261a07eacfe71388b9"), looks := true }, kinds := [], alts := [], laidByText := true, laidKinds := [.data, .data, .data, .sentinel, .sentinel, .widerDeep, .mapped, .mapped, .data, .data], laidTests := true, laidLooks := .later }
def ScopeSpoilsUptoCardSaid : Prop := Claim7.holds Tryz.pinned (.plain (OpenSpec.upto scopeSpoilsSpec)) scopeSpoilsUptoCard
end Rows
end Go.Proofs.YtbbkkkpgjaopkaaGreatDoor
