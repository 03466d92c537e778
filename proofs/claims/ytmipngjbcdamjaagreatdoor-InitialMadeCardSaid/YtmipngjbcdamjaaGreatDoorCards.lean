/-
  DERIVED. GIVEN WITH THE SEED: THE CARDS: each row of YtmipngjbcdamjaaGreatDoorRows.lean that lists a variable, with what it lists TIED to the program's text (the seventh form; the later family's looks); each row that meets fmt, with fmt's text TOLD by the authors' own Lean function (tested against real Go, not proved from fmt's source: count such statements apart). THE CARD IS WHAT COUNTS. Prove the row's statement (the work); the ties are given (YtmipngjbcdamjaaGreatDoorTie.lean); close each card by the builder's one call (the guide's Derived/Test/ToyasCard.lean, 'card_holds'). Laid BY PROGRAM, IN A SANDBOX (cutbox-door.mjs). By AI agents, Wed Nov 11 2026. No macro, syntax, notation, axiom, sorry.
-/
import Derived.Test.YtmipngjbcdamjaaGreatDoorRows
import GoSem.ClaimSeven
namespace Go.Proofs.YtmipngjbcdamjaaGreatDoor
namespace Rows

/-- THE TIED CARD OF 'orrerylaw19.TypesMade'. -/
def typesMadeCard : Claim7 := { stood := { row := typesMadeRow, standIns := [], harness := (true, "f1a8d965428787f5070cade103c454cb32271b519a6e660728d902f084f2c4d9"), looks := true }, kinds := [], alts := [], laidByText := true, laidKinds := [.data, .data, .data, .sentinel, .sentinel, .widerDeep, .mapped, .mapped, .data, .data, .data], laidTests := true, laidLooks := .later }
def TypesMadeCardSaid : Prop := Claim7.holds Tryz.pinned (.plain (OpenSpec.ofChange typesMadeSpec)) typesMadeCard

/-- THE TIED CARD OF 'orrerylaw21.InitialMade'. -/
def initialMadeCard : Claim7 := { stood := { row := initialMadeRow, standIns := [], harness := (true, "f1a8d965428787f5070cade103c454cb32271b519a6e660728d902f084f2c4d9"), looks := true }, kinds := [], alts := [], laidByText := true, laidKinds := [.data, .data, .data, .sentinel, .sentinel, .widerDeep, .mapped, .mapped, .data, .data, .data], laidTests := true, laidLooks := .later }
def InitialMadeCardSaid : Prop := Claim7.holds Tryz.pinned (.plain (OpenSpec.ofChange initialMadeSpec)) initialMadeCard

/-- THE SECOND FORM's CARD OF 'orrerylaw19.TypesMade'. -/
def typesMadeUptoCard : Claim7 := { stood := { row := typesMadeUptoRow, standIns := [], harness := (true, "f1a8d965428787f5070cade103c454cb32271b519a6e660728d902f084f2c4d9"), looks := true }, kinds := [], alts := [], laidByText := true, laidKinds := [.data, .data, .data, .sentinel, .sentinel, .widerDeep, .mapped, .mapped, .data, .data, .data], laidTests := true, laidLooks := .later }
def TypesMadeUptoCardSaid : Prop := Claim7.holds Tryz.pinned (.plain (OpenSpec.upto typesMadeSpec)) typesMadeUptoCard

/-- THE SECOND FORM's CARD OF 'orrerylaw21.InitialMade'. -/
def initialMadeUptoCard : Claim7 := { stood := { row := initialMadeUptoRow, standIns := [], harness := (true, "f1a8d965428787f5070cade103c454cb32271b519a6e660728d902f084f2c4d9"), looks := true }, kinds := [], alts := [], laidByText := true, laidKinds := [.data, .data, .data, .sentinel, .sentinel, .widerDeep, .mapped, .mapped, .data, .data, .data], laidTests := true, laidLooks := .later }
def InitialMadeUptoCardSaid : Prop := Claim7.holds Tryz.pinned (.plain (OpenSpec.upto initialMadeSpec)) initialMadeUptoCard
end Rows
end Go.Proofs.YtmipngjbcdamjaaGreatDoor
