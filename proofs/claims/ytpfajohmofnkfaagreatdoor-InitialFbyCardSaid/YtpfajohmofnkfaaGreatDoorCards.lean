/-
  DERIVED. GIVEN WITH THE SEED: THE CARDS: each row of YtpfajohmofnkfaaGreatDoorRows.lean that lists a variable, with what it lists TIED to the program's text (the seventh form; the later family's looks); each row that meets fmt, with fmt's text TOLD by the authors' own Lean function (tested against real Go, not proved from fmt's source: count such statements apart). THE CARD IS WHAT COUNTS. Prove the row's statement (the work); the ties are given (YtpfajohmofnkfaaGreatDoorTie.lean); close each card by the builder's one call (the guide's Derived/Test/ToyasCard.lean, 'card_holds'). Laid BY PROGRAM, IN A SANDBOX (cutbox-door.mjs). By AI agents, Wed Nov 11 2026. No macro, syntax, notation, axiom, sorry.
-/
import Derived.Test.YtpfajohmofnkfaaGreatDoorRows
import GoSem.ClaimSeven
namespace Go.Proofs.YtpfajohmofnkfaaGreatDoor
namespace Rows

/-- THE TIED CARD OF 'orrerylaw18.ScopeOne'. -/
def scopeOneCard : Claim7 := { stood := { row := scopeOneRow, standIns := [], harness := (true, "4b345ede4b770adc0e8d9fa7c072f50341ffd360b38aa823078c81e3e308fa1f"), looks := true }, kinds := [], alts := [], laidByText := true, laidKinds := [.data, .data, .data, .sentinel, .sentinel, .widerDeep, .mapped, .mapped, .data, .data], laidTests := true, laidLooks := .later }
def ScopeOneCardSaid : Prop := Claim7.holds Tryz.pinned (.plain (OpenSpec.ofChange scopeOneSpec)) scopeOneCard

/-- THE TIED CARD OF 'orrerylaw18.ScopeRenames'. -/
def scopeRenamesCard : Claim7 := { stood := { row := scopeRenamesRow, standIns := [], harness := (true, "4b345ede4b770adc0e8d9fa7c072f50341ffd360b38aa823078c81e3e308fa1f"), looks := true }, kinds := [], alts := [], laidByText := true, laidKinds := [.data, .data, .data, .sentinel, .sentinel, .widerDeep, .mapped, .mapped, .data, .data], laidTests := true, laidLooks := .later }
def ScopeRenamesCardSaid : Prop := Claim7.holds Tryz.pinned (.plain (OpenSpec.ofChange scopeRenamesSpec)) scopeRenamesCard

/-- THE TIED CARD OF 'orrerylaw18.ScopeSpoils'. -/
def scopeSpoilsCard : Claim7 := { stood := { row := scopeSpoilsRow, standIns := [], harness := (true, "4b345ede4b770adc0e8d9fa7c072f50341ffd360b38aa823078c81e3e308fa1f"), looks := true }, kinds := [], alts := [], laidByText := true, laidKinds := [.data, .data, .data, .sentinel, .sentinel, .widerDeep, .mapped, .mapped, .data, .data], laidTests := true, laidLooks := .later }
def ScopeSpoilsCardSaid : Prop := Claim7.holds Tryz.pinned (.plain (OpenSpec.ofChange scopeSpoilsSpec)) scopeSpoilsCard

/-- THE TIED CARD OF 'orrerylaw19.TypesHold'. -/
def typesHoldCard : Claim7 := { stood := { row := typesHoldRow, standIns := [], harness := (true, "4b345ede4b770adc0e8d9fa7c072f50341ffd360b38aa823078c81e3e308fa1f"), looks := true }, kinds := [], alts := [], laidByText := true, laidKinds := [.data, .data, .data, .sentinel, .sentinel, .widerDeep, .mapped, .mapped, .data, .data, .data], laidTests := true, laidLooks := .later }
def TypesHoldCardSaid : Prop := Claim7.holds Tryz.pinned (.plain (OpenSpec.ofChange typesHoldSpec)) typesHoldCard

/-- THE TIED CARD OF 'orrerylaw19.TypesMade'. -/
def typesMadeCard : Claim7 := { stood := { row := typesMadeRow, standIns := [], harness := (true, "4b345ede4b770adc0e8d9fa7c072f50341ffd360b38aa823078c81e3e308fa1f"), looks := true }, kinds := [], alts := [], laidByText := true, laidKinds := [.data, .data, .data, .sentinel, .sentinel, .widerDeep, .mapped, .mapped, .data, .data, .data], laidTests := true, laidLooks := .later }
def TypesMadeCardSaid : Prop := Claim7.holds Tryz.pinned (.plain (OpenSpec.ofChange typesMadeSpec)) typesMadeCard

/-- THE TIED CARD OF 'orrerylaw19.TypesLocal'. -/
def typesLocalCard : Claim7 := { stood := { row := typesLocalRow, standIns := [], harness := (true, "4b345ede4b770adc0e8d9fa7c072f50341ffd360b38aa823078c81e3e308fa1f"), looks := true }, kinds := [], alts := [], laidByText := true, laidKinds := [.data, .data, .data, .sentinel, .sentinel, .widerDeep, .mapped, .mapped, .data, .data, .data], laidTests := true, laidLooks := .later }
def TypesLocalCardSaid : Prop := Claim7.holds Tryz.pinned (.plain (OpenSpec.ofChange typesLocalSpec)) typesLocalCard

/-- THE TIED CARD OF 'orrerylaw21.InitialMade'. -/
def initialMadeCard : Claim7 := { stood := { row := initialMadeRow, standIns := [], harness := (true, "4b345ede4b770adc0e8d9fa7c072f50341ffd360b38aa823078c81e3e308fa1f"), looks := true }, kinds := [], alts := [], laidByText := true, laidKinds := [.data, .data, .data, .sentinel, .sentinel, .widerDeep, .mapped, .mapped, .data, .data, .data], laidTests := true, laidLooks := .later }
def InitialMadeCardSaid : Prop := Claim7.holds Tryz.pinned (.plain (OpenSpec.ofChange initialMadeSpec)) initialMadeCard

/-- THE TIED CARD OF 'orrerylaw21.InitialKnown'. -/
def initialKnownCard : Claim7 := { stood := { row := initialKnownRow, standIns := [], harness := (true, "4b345ede4b770adc0e8d9fa7c072f50341ffd360b38aa823078c81e3e308fa1f"), looks := true }, kinds := [], alts := [], laidByText := true, laidKinds := [.data, .data, .data, .sentinel, .sentinel, .widerDeep, .mapped, .mapped, .data, .data, .data], laidTests := true, laidLooks := .later }
def InitialKnownCardSaid : Prop := Claim7.holds Tryz.pinned (.plain (OpenSpec.ofChange initialKnownSpec)) initialKnownCard

/-- THE TIED CARD OF 'orrerylaw21.InitialFby'. -/
def initialFbyCard : Claim7 := { stood := { row := initialFbyRow, standIns := [], harness := (true, "4b345ede4b770adc0e8d9fa7c072f50341ffd360b38aa823078c81e3e308fa1f"), looks := true }, kinds := [], alts := [], laidByText := true, laidKinds := [.data, .data, .data, .sentinel, .sentinel, .widerDeep, .mapped, .mapped, .data, .data, .data], laidTests := true, laidLooks := .later }
def InitialFbyCardSaid : Prop := Claim7.holds Tryz.pinned (.plain (OpenSpec.ofChange initialFbySpec)) initialFbyCard

/-- THE TIED CARD OF 'orrerylaw20.ClocksBelow'. -/
def clocksBelowCard : Claim7 := { stood := { row := clocksBelowRow, standIns := [], harness := (true, "4b345ede4b770adc0e8d9fa7c072f50341ffd360b38aa823078c81e3e308fa1f"), looks := true }, kinds := [], alts := [], laidByText := true, laidKinds := [.data, .data, .data, .sentinel, .sentinel, .widerDeep, .mapped, .mapped, .data, .data, .data], laidTests := true, laidLooks := .later }
def ClocksBelowCardSaid : Prop := Claim7.holds Tryz.pinned (.plain (OpenSpec.ofChange clocksBelowSpec)) clocksBelowCard

/-- THE TIED CARD OF 'orrerylaw20.ClocksTurned'. -/
def clocksTurnedCard : Claim7 := { stood := { row := clocksTurnedRow, standIns := [], harness := (true, "4b345ede4b770adc0e8d9fa7c072f50341ffd360b38aa823078c81e3e308fa1f"), looks := true }, kinds := [], alts := [], laidByText := true, laidKinds := [.data, .data, .data, .sentinel, .sentinel, .widerDeep, .mapped, .mapped, .data, .data, .data], laidTests := true, laidLooks := .later }
def ClocksTurnedCardSaid : Prop := Claim7.holds Tryz.pinned (.plain (OpenSpec.ofChange clocksTurnedSpec)) clocksTurnedCard

/-- THE TIED CARD OF 'orrerylaw20.ClocksChains'. -/
def clocksChainsCard : Claim7 := { stood := { row := clocksChainsRow, standIns := [], harness := (true, "4b345ede4b770adc0e8d9fa7c072f50341ffd360b38aa823078c81e3e308fa1f"), looks := true }, kinds := [], alts := [], laidByText := true, laidKinds := [.data, .data, .data, .sentinel, .sentinel, .widerDeep, .mapped, .mapped, .data, .data, .data], laidTests := true, laidLooks := .later }
def ClocksChainsCardSaid : Prop := Claim7.holds Tryz.pinned (.plain (OpenSpec.ofChange clocksChainsSpec)) clocksChainsCard

/-- THE SECOND FORM's CARD OF 'orrerylaw18.ScopeOne'. -/
def scopeOneUptoCard : Claim7 := { stood := { row := scopeOneUptoRow, standIns := [], harness := (true, "4b345ede4b770adc0e8d9fa7c072f50341ffd360b38aa823078c81e3e308fa1f"), looks := true }, kinds := [], alts := [], laidByText := true, laidKinds := [.data, .data, .data, .sentinel, .sentinel, .widerDeep, .mapped, .mapped, .data, .data], laidTests := true, laidLooks := .later }
def ScopeOneUptoCardSaid : Prop := Claim7.holds Tryz.pinned (.plain (OpenSpec.upto scopeOneSpec)) scopeOneUptoCard

/-- THE SECOND FORM's CARD OF 'orrerylaw18.ScopeRenames'. -/
def scopeRenamesUptoCard : Claim7 := { stood := { row := scopeRenamesUptoRow, standIns := [], harness := (true, "4b345ede4b770adc0e8d9fa7c072f50341ffd360b38aa823078c81e3e308fa1f"), looks := true }, kinds := [], alts := [], laidByText := true, laidKinds := [.data, .data, .data, .sentinel, .sentinel, .widerDeep, .mapped, .mapped, .data, .data], laidTests := true, laidLooks := .later }
def ScopeRenamesUptoCardSaid : Prop := Claim7.holds Tryz.pinned (.plain (OpenSpec.upto scopeRenamesSpec)) scopeRenamesUptoCard

/-- THE SECOND FORM's CARD OF 'orrerylaw18.ScopeSpoils'. -/
def scopeSpoilsUptoCard : Claim7 := { stood := { row := scopeSpoilsUptoRow, standIns := [], harness := (true, "4b345ede4b770adc0e8d9fa7c072f50341ffd360b38aa823078c81e3e308fa1f"), looks := true }, kinds := [], alts := [], laidByText := true, laidKinds := [.data, .data, .data, .sentinel, .sentinel, .widerDeep, .mapped, .mapped, .data, .data], laidTests := true, laidLooks := .later }
def ScopeSpoilsUptoCardSaid : Prop := Claim7.holds Tryz.pinned (.plain (OpenSpec.upto scopeSpoilsSpec)) scopeSpoilsUptoCard

/-- THE SECOND FORM's CARD OF 'orrerylaw19.TypesHold'. -/
def typesHoldUptoCard : Claim7 := { stood := { row := typesHoldUptoRow, standIns := [], harness := (true, "4b345ede4b770adc0e8d9fa7c072f50341ffd360b38aa823078c81e3e308fa1f"), looks := true }, kinds := [], alts := [], laidByText := true, laidKinds := [.data, .data, .data, .sentinel, .sentinel, .widerDeep, .mapped, .mapped, .data, .data, .data], laidTests := true, laidLooks := .later }
def TypesHoldUptoCardSaid : Prop := Claim7.holds Tryz.pinned (.plain (OpenSpec.upto typesHoldSpec)) typesHoldUptoCard

/-- THE SECOND FORM's CARD OF 'orrerylaw19.TypesMade'. -/
def typesMadeUptoCard : Claim7 := { stood := { row := typesMadeUptoRow, standIns := [], harness := (true, "4b345ede4b770adc0e8d9fa7c072f50341ffd360b38aa823078c81e3e308fa1f"), looks := true }, kinds := [], alts := [], laidByText := true, laidKinds := [.data, .data, .data, .sentinel, .sentinel, .widerDeep, .mapped, .mapped, .data, .data, .data], laidTests := true, laidLooks := .later }
def TypesMadeUptoCardSaid : Prop := Claim7.holds Tryz.pinned (.plain (OpenSpec.upto typesMadeSpec)) typesMadeUptoCard

/-- THE SECOND FORM's CARD OF 'orrerylaw19.TypesLocal'. -/
def typesLocalUptoCard : Claim7 := { stood := { row := typesLocalUptoRow, standIns := [], harness := (true, "4b345ede4b770adc0e8d9fa7c072f50341ffd360b38aa823078c81e3e308fa1f"), looks := true }, kinds := [], alts := [], laidByText := true, laidKinds := [.data, .data, .data, .sentinel, .sentinel, .widerDeep, .mapped, .mapped, .data, .data, .data], laidTests := true, laidLooks := .later }
def TypesLocalUptoCardSaid : Prop := Claim7.holds Tryz.pinned (.plain (OpenSpec.upto typesLocalSpec)) typesLocalUptoCard

/-- THE SECOND FORM's CARD OF 'orrerylaw21.InitialMade'. -/
def initialMadeUptoCard : Claim7 := { stood := { row := initialMadeUptoRow, standIns := [], harness := (true, "4b345ede4b770adc0e8d9fa7c072f50341ffd360b38aa823078c81e3e308fa1f"), looks := true }, kinds := [], alts := [], laidByText := true, laidKinds := [.data, .data, .data, .sentinel, .sentinel, .widerDeep, .mapped, .mapped, .data, .data, .data], laidTests := true, laidLooks := .later }
def InitialMadeUptoCardSaid : Prop := Claim7.holds Tryz.pinned (.plain (OpenSpec.upto initialMadeSpec)) initialMadeUptoCard

/-- THE SECOND FORM's CARD OF 'orrerylaw21.InitialKnown'. -/
def initialKnownUptoCard : Claim7 := { stood := { row := initialKnownUptoRow, standIns := [], harness := (true, "4b345ede4b770adc0e8d9fa7c072f50341ffd360b38aa823078c81e3e308fa1f"), looks := true }, kinds := [], alts := [], laidByText := true, laidKinds := [.data, .data, .data, .sentinel, .sentinel, .widerDeep, .mapped, .mapped, .data, .data, .data], laidTests := true, laidLooks := .later }
def InitialKnownUptoCardSaid : Prop := Claim7.holds Tryz.pinned (.plain (OpenSpec.upto initialKnownSpec)) initialKnownUptoCard

/-- THE SECOND FORM's CARD OF 'orrerylaw21.InitialFby'. -/
def initialFbyUptoCard : Claim7 := { stood := { row := initialFbyUptoRow, standIns := [], harness := (true, "4b345ede4b770adc0e8d9fa7c072f50341ffd360b38aa823078c81e3e308fa1f"), looks := true }, kinds := [], alts := [], laidByText := true, laidKinds := [.data, .data, .data, .sentinel, .sentinel, .widerDeep, .mapped, .mapped, .data, .data, .data], laidTests := true, laidLooks := .later }
def InitialFbyUptoCardSaid : Prop := Claim7.holds Tryz.pinned (.plain (OpenSpec.upto initialFbySpec)) initialFbyUptoCard

/-- THE SECOND FORM's CARD OF 'orrerylaw20.ClocksBelow'. -/
def clocksBelowUptoCard : Claim7 := { stood := { row := clocksBelowUptoRow, standIns := [], harness := (true, "4b345ede4b770adc0e8d9fa7c072f50341ffd360b38aa823078c81e3e308fa1f"), looks := true }, kinds := [], alts := [], laidByText := true, laidKinds := [.data, .data, .data, .sentinel, .sentinel, .widerDeep, .mapped, .mapped, .data, .data, .data], laidTests := true, laidLooks := .later }
def ClocksBelowUptoCardSaid : Prop := Claim7.holds Tryz.pinned (.plain (OpenSpec.upto clocksBelowSpec)) clocksBelowUptoCard

/-- THE SECOND FORM's CARD OF 'orrerylaw20.ClocksTurned'. -/
def clocksTurnedUptoCard : Claim7 := { stood := { row := clocksTurnedUptoRow, standIns := [], harness := (true, "4b345ede4b770adc0e8d9fa7c072f50341ffd360b38aa823078c81e3e308fa1f"), looks := true }, kinds := [], alts := [], laidByText := true, laidKinds := [.data, .data, .data, .sentinel, .sentinel, .widerDeep, .mapped, .mapped, .data, .data, .data], laidTests := true, laidLooks := .later }
def ClocksTurnedUptoCardSaid : Prop := Claim7.holds Tryz.pinned (.plain (OpenSpec.upto clocksTurnedSpec)) clocksTurnedUptoCard

/-- THE SECOND FORM's CARD OF 'orrerylaw20.ClocksChains'. -/
def clocksChainsUptoCard : Claim7 := { stood := { row := clocksChainsUptoRow, standIns := [], harness := (true, "4b345ede4b770adc0e8d9fa7c072f50341ffd360b38aa823078c81e3e308fa1f"), looks := true }, kinds := [], alts := [], laidByText := true, laidKinds := [.data, .data, .data, .sentinel, .sentinel, .widerDeep, .mapped, .mapped, .data, .data, .data], laidTests := true, laidLooks := .later }
def ClocksChainsUptoCardSaid : Prop := Claim7.holds Tryz.pinned (.plain (OpenSpec.upto clocksChainsSpec)) clocksChainsUptoCard
end Rows
end Go.Proofs.YtpfajohmofnkfaaGreatDoor
