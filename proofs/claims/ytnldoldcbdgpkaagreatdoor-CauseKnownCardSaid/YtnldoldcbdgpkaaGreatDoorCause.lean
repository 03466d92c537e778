/- The tied card of the law CauseKnown holds: it returns true in every start in which the listed variables read as the program's text lays them. -/
import Derived.Test.YtnldoldcbdgpkaaGreatDoorTie
import Derived.Test.YtnldoldcbdgpkaaGreatDoorCards
import Derived.Test.YtnldoldcbdgpkaaGreatDoorEvD
import Derived.Test.YtnldoldcbdgpkaaGreatDoorClone
import Derived.ProofKit
import Derived.LaidMore
import Derived.OpenShut
import Derived.Stop.Joined
import Derived.SevenTiedAt
namespace Go.Proofs.YtnldoldcbdgpkaaGreatDoor
open Go.ChangeShapes Go.WideShapes Go.ChangeAt Go.RowKit

theorem Tryz.own : ownKnob Tryz.prog.godebug = none := by kernel_rfl
theorem names_ok : (Tryz.prog.funcs.toList.all fun fn => !fn.body.isSome || !(fn.name == "runtime.NumGoroutine")) = true := by kernel_rfl
theorem mixed_ok : Tryz.prog.follows .mixedOrders = true := by kernel_rfl
theorem pf : Go.AE.PF Tryz.prog := by
  refine ⟨mixed_ok, fun f fn hf hb => ?_⟩
  have hm : fn ∈ Tryz.prog.funcs.toList := Array.mem_toList_iff.2 (Array.mem_of_getElem? hf)
  have h := List.all_eq_true.1 names_ok fn hm
  rw [hb] at h
  simpa using h
noncomputable def nm : List (String × Nat) := [((Tryz.prog.typeName? 3 232).getD "", 232)]
theorem nm_one : Go.AE.NamesOne Tryz.prog nm := by
  intro x hx u hu
  have hx : x = ((Tryz.prog.typeName? 3 232).getD "", 232) := by simpa [nm] using hx
  subst hx
  exact typeName_ptr_named (nm := "errors.errorString") (by kernel_rfl) (by kernel_rfl) (by decide) u (hu.trans (by kernel_rfl))
noncomputable def lv : Nat × List (Nat × Go.AE.AObj) := Go.AE.layVarsN Tryz.prog nm Rows.causeKnownRow.laid Tryz.prog.globals.size
noncomputable def cfg0 : Go.AE.Cfg := ⟨Tryz.prog, Go.AE.setAll lv.2 .nil, lv.1, Go.AE.orcClone 145 (Go.AE.orcIx 123), Tryz.prog.globals.size⟩
noncomputable def tab1x0 : List (Nat × List Go.AE.AV × Go.AE.AV) := [
  (4, [.str [110, 111, 100, 101, 32, 102, 40, 99, 58, 32, 98, 111, 111, 108, 41, 32, 114, 101, 116, 117, 114, 110, 115, 32, 40, 120, 58, 32, 98, 111, 111, 108, 32, 119, 104, 101, 110, 32, 99, 41, 32, 108, 101, 116, 32, 120, 32, 61, 32, 116, 114, 117, 101, 59, 32, 116, 101, 108]], .agg [.int .i64 (0), .int .i64 (0)]),
  (4, [.str [110, 111, 100, 101, 32, 102, 40, 41, 32, 114, 101, 116, 117, 114, 110, 115, 32, 40, 99, 58, 32, 98, 111, 111, 108, 59, 32, 120, 58, 32, 98, 111, 111, 108, 32, 119, 104, 101, 110, 32, 99, 41, 32, 108, 101, 116, 32, 99, 32, 61, 32, 109, 101, 114, 103, 101, 32, 99, 32, 40, 120, 41, 32, 40, 116, 114, 117, 101, 41, 59, 32, 120, 32, 61, 32, 116, 114, 117, 101, 59, 32, 116, 101, 108]], .agg [.int .i64 (29), .int .i64 (49)]),
  (4, [.str [110, 111, 100, 101, 32, 102, 40, 41, 32, 114, 101, 116, 117, 114, 110, 115, 32, 40, 120, 58, 32, 98, 111, 111, 108, 41, 32, 108, 101, 116, 32, 120, 32, 61, 32, 116, 114, 117, 101, 32, 102, 98, 121, 32, 120, 59, 32, 116, 101, 108]], .agg [.int .i64 (0), .int .i64 (0)])]
theorem plays1x0 : Go.AE.tabPlays cfg0 100000000 tab1x0 = true := by kernel_rfl
noncomputable def tab1x1 : List (Nat × List Go.AE.AV × Go.AE.AV) := [
  (4, [.str [110, 111, 100, 101, 32, 102, 40, 41, 32, 114, 101, 116, 117, 114, 110, 115, 32, 40, 120, 58, 32, 98, 111, 111, 108, 41, 32, 108, 101, 116, 32, 120, 32, 61, 32, 116, 114, 117, 101, 32, 45, 62, 32, 120, 59, 32, 116, 101, 108]], .agg [.int .i64 (29), .int .i64 (33)]),
  (4, [.str [110, 111, 100, 101, 32, 102, 40, 41, 32, 114, 101, 116, 117, 114, 110, 115, 32, 40, 120, 58, 32, 98, 111, 111, 108, 41, 32, 108, 101, 116, 32, 120, 32, 61, 32, 116, 114, 117, 101, 32, 45, 62, 32, 112, 114, 101, 32, 120, 59, 32, 116, 101, 108]], .agg [.int .i64 (0), .int .i64 (0)]),
  (4, [.str [110, 111, 100, 101, 32, 102, 40, 105, 58, 32, 98, 111, 111, 108, 41, 32, 114, 101, 116, 117, 114, 110, 115, 32, 40, 120, 58, 32, 98, 111, 111, 108, 41, 32, 108, 101, 116, 32, 120, 32, 61, 32, 105, 102, 32, 105, 32, 116, 104, 101, 110, 32, 105, 32, 101, 108, 115, 101, 32, 120, 59, 32, 116, 101, 108]], .agg [.int .i64 (29), .int .i64 (40)])]
theorem plays1x1 : Go.AE.tabPlays cfg0 100000000 tab1x1 = true := by kernel_rfl
noncomputable def tab1x2 : List (Nat × List Go.AE.AV × Go.AE.AV) := [
  (4, [.str [110, 111, 100, 101, 32, 103, 40, 105, 58, 32, 98, 111, 111, 108, 41, 32, 114, 101, 116, 117, 114, 110, 115, 32, 40, 111, 58, 32, 98, 111, 111, 108, 41, 32, 108, 101, 116, 32, 111, 32, 61, 32, 116, 114, 117, 101, 32, 102, 98, 121, 32, 105, 59, 32, 116, 101, 108, 32, 110, 111, 100, 101, 32, 102, 40, 41, 32, 114, 101, 116, 117, 114, 110, 115, 32, 40, 120, 58, 32, 98, 111, 111, 108, 41, 32, 108, 101, 116, 32, 120, 32, 61, 32, 103, 40, 120, 41, 59, 32, 116, 101, 108]], .agg [.int .i64 (29), .int .i64 (91)])]
theorem plays1x2 : Go.AE.tabPlays cfg0 100000000 tab1x2 = true := by kernel_rfl
noncomputable def tab1x3 : List (Nat × List Go.AE.AV × Go.AE.AV) := [
  (4, [.str [110, 111, 100, 101, 32, 103, 40, 105, 44, 32, 106, 58, 32, 98, 111, 111, 108, 41, 32, 114, 101, 116, 117, 114, 110, 115, 32, 40, 111, 44, 32, 112, 58, 32, 98, 111, 111, 108, 41, 32, 108, 101, 116, 32, 111, 32, 61, 32, 106, 59, 32, 112, 32, 61, 32, 105, 59, 32, 116, 101, 108, 32, 110, 111, 100, 101, 32, 102, 40, 97, 58, 32, 98, 111, 111, 108, 41, 32, 114, 101, 116, 117, 114, 110, 115, 32, 40, 120, 44, 32, 121, 58, 32, 98, 111, 111, 108, 41, 32, 108, 101, 116, 32, 40, 120, 44, 32, 121, 41, 32, 61, 32, 103, 40, 97, 44, 32, 120, 41, 59, 32, 116, 101, 108]], .agg [.int .i64 (29), .int .i64 (110)])]
theorem plays1x3 : Go.AE.tabPlays cfg0 100000000 tab1x3 = true := by kernel_rfl
noncomputable def tab1x4 : List (Nat × List Go.AE.AV × Go.AE.AV) := [
  (4, [.str [110, 111, 100, 101, 32, 102, 40, 99, 58, 32, 98, 111, 111, 108, 41, 32, 114, 101, 116, 117, 114, 110, 115, 32, 40, 121, 58, 32, 98, 111, 111, 108, 41, 32, 118, 97, 114, 32, 100, 58, 32, 98, 111, 111, 108, 32, 119, 104, 101, 110, 32, 99, 59, 32, 101, 58, 32, 98, 111, 111, 108, 32, 119, 104, 101, 110, 32, 100, 59, 32, 108, 101, 116, 32, 100, 32, 61, 32, 99, 32, 119, 104, 101, 110, 32, 99, 59, 32, 101, 32, 61, 32, 40, 99, 32, 119, 104, 101, 110, 32, 99, 41, 32, 119, 104, 101, 110, 32, 100, 59, 32, 121, 32, 61, 32, 109, 101, 114, 103, 101, 32, 99, 32, 40, 109, 101, 114, 103, 101, 32, 100, 32, 40, 101, 41, 32, 40, 102, 97, 108, 115, 101, 41, 41, 32, 40, 116, 114, 117, 101, 41, 59, 32, 116, 101, 108]], .agg [.int .i64 (0), .int .i64 (0)])]
theorem plays1x4 : Go.AE.tabPlays cfg0 100000000 tab1x4 = true := by kernel_rfl
noncomputable def tab1x5 : List (Nat × List Go.AE.AV × Go.AE.AV) := [
  (4, [.str [110, 111, 100, 101, 32, 102, 40, 105, 58, 32, 117, 56, 41, 32, 114, 101, 116, 117, 114, 110, 115, 32, 40, 120, 58, 32, 117, 56, 41, 32, 108, 101, 116, 32, 120, 32, 61, 32, 105, 59, 32, 116, 101, 108, 32, 110, 111, 100, 101, 32, 103, 40, 41, 32, 114, 101, 116, 117, 114, 110, 115, 32, 40, 120, 44, 32, 121, 58, 32, 117, 56, 41, 32, 108, 101, 116, 32, 120, 32, 61, 32, 121, 59, 32, 121, 32, 61, 32, 48, 117, 56, 32, 45, 62, 32, 112, 114, 101, 32, 120, 59, 32, 116, 101, 108]], .agg [.int .i64 (0), .int .i64 (0)])]
theorem plays1x5 : Go.AE.tabPlays cfg0 100000000 tab1x5 = true := by kernel_rfl
noncomputable def tab1x6 : List (Nat × List Go.AE.AV × Go.AE.AV) := [
  (4, [.str [110, 111, 100, 101, 32, 102, 40, 105, 58, 32, 117, 56, 41, 32, 114, 101, 116, 117, 114, 110, 115, 32, 40, 120, 58, 32, 117, 56, 41, 32, 108, 101, 116, 32, 120, 32, 61, 32, 105, 59, 32, 116, 101, 108, 32, 110, 111, 100, 101, 32, 103, 40, 41, 32, 114, 101, 116, 117, 114, 110, 115, 32, 40, 120, 44, 32, 121, 58, 32, 117, 56, 41, 32, 108, 101, 116, 32, 120, 32, 61, 32, 121, 32, 43, 32, 49, 117, 56, 59, 32, 121, 32, 61, 32, 120, 59, 32, 116, 101, 108]], .agg [.int .i64 (29), .int .i64 (79)])]
theorem plays1x6 : Go.AE.tabPlays cfg0 100000000 tab1x6 = true := by kernel_rfl
noncomputable def tab1x7 : List (Nat × List Go.AE.AV × Go.AE.AV) := [
  (4, [.str [110, 111, 100, 101, 32, 102, 40, 105, 58, 32, 117, 56, 41, 32, 114, 101, 116, 117, 114, 110, 115, 32, 40, 120, 58, 32, 117, 56, 41, 32, 108, 101, 116, 32, 120, 32, 61, 32, 105, 59, 32, 116, 101, 108, 32, 110, 111, 100, 101, 32, 103, 40, 41, 32, 114, 101, 116, 117, 114, 110, 115, 32, 40, 120, 44, 32, 121, 58, 32, 117, 56, 41, 32, 108, 101, 116, 32, 120, 32, 61, 32, 102, 40, 120, 41, 59, 32, 121, 32, 61, 32, 120, 59, 32, 116, 101, 108]], .agg [.int .i64 (29), .int .i64 (79)])]
theorem plays1x7 : Go.AE.tabPlays cfg0 100000000 tab1x7 = true := by kernel_rfl
noncomputable def tab1 : List (Nat × List Go.AE.AV × Go.AE.AV) := tab1x0 ++ (tab1x1 ++ (tab1x2 ++ (tab1x3 ++ (tab1x4 ++ (tab1x5 ++ (tab1x6 ++ (tab1x7)))))))
theorem tab1_ok : Go.AE.tabOk tab1 = true := by kernel_rfl
theorem tab1_plays : ∀ x ∈ tab1, ∃ m, Go.AE.runCall cfg0 m x.1 x.2.1 = some x.2.2 := Go.AE.tabPlays_app (Go.AE.tabPlays_mem plays1x0) (Go.AE.tabPlays_app (Go.AE.tabPlays_mem plays1x1) (Go.AE.tabPlays_app (Go.AE.tabPlays_mem plays1x2) (Go.AE.tabPlays_app (Go.AE.tabPlays_mem plays1x3) (Go.AE.tabPlays_app (Go.AE.tabPlays_mem plays1x4) (Go.AE.tabPlays_app (Go.AE.tabPlays_mem plays1x5) (Go.AE.tabPlays_app (Go.AE.tabPlays_mem plays1x6) (Go.AE.tabPlays_mem plays1x7)))))))
noncomputable def cfg1 : Go.AE.Cfg := ⟨Tryz.prog, Go.AE.setAll lv.2 .nil, lv.1, Go.AE.orcTab (Go.AE.orcClone 145 (Go.AE.orcIx 123)) tab1, Tryz.prog.globals.size⟩
theorem played : Go.AE.runCall cfg1 100000000 3 [] = some (.bool true) := by kernel_rfl
theorem ix_none : Extern.findNext Tryz.f123 = none := by kernel_rfl
theorem ix_find : Extern.find Tryz.f123 = some Extern.BytealgIndexByte.indexByte := by kernel_rfl
theorem known_any (w : World) (h : laidMet Tryz.prog Rows.causeKnownRow.laid w) : Calls Tryz.prog 3 #[] w fun e w' => e = .returned (.bool true) ∧ Below w.heap.size w w' := by
  obtain ⟨φx, Dx, envx⟩ := Go.AE.Env.laidIxN nm_one pf Tryz.func123 (by kernel_rfl) (by kernel_rfl) ix_none ix_find h
  obtain ⟨φ0, D0, env0⟩ := Go.AE.Env.laidCloneN nm_one Tryz.func145 (by kernel_rfl) rfl Tryz.stringslite_Clone h envx
  obtain ⟨φ1, D1, env1⟩ := Go.AE.Env.laidTabN nm_one h env0 tab1_ok tab1_plays
  have h := Go.AE.runCall_sound (C := cfg1) env1 (f := 3) (args := []) trivial played
  refine h.mono fun e w' ⟨⟨φ, he⟩, hb⟩ => ⟨?_, hb⟩
  rw [he]
  rfl

/-- The door's own heap meets the condition. -/
theorem door_met (os : Os) (args : Array Value) : laidMetH Tryz.prog Rows.causeKnownRow.laid ((World.doorLaid Tryz.prog 271 os).forCall (fun _ _ => 0) ⟨#[], args, []⟩).memory :=
  laidMetH_of_parts3 (fuel := 8) (laidMet_of_run' 8 (by kernel_rfl) (by kernel_rfl)) (by kernel_rfl) (by kernel_rfl)

set_option maxRecDepth 100000 in
theorem lifted (os : Os) (started : os.Started) (H : Type) (enc : TypeId × Value → H) :
    ReturnsInHanded {} Tryz.checked os 3 .any (fun w args => (Rows.causeKnownSpec.pre enc Tryz.prog Tryz.f3 [] false w args ∧ laidMetH Tryz.prog Rows.causeKnownRow.laid w) ∧ sizedMet enc Tryz.prog Tryz.f3 (OpenSpec.ofChange Rows.causeKnownSpec) false w args)
      (Rows.causeKnownSpec.post enc Tryz.prog Tryz.f3 false true false false) := by
  refine returnsInHanded_of_change_and (C := Tryz.checked) (X := fun w _ => laidMetH Tryz.prog Rows.causeKnownRow.laid w) (fun _ _ _ hh h => h.of_heap hh) Tryz.own started (by kernel_rfl) Tryz.func3
    (ChangeSpec.witness_shaped (enc := enc) (C := Tryz.checked) (os := os) (X := fun w _ => laidMetH Tryz.prog Rows.causeKnownRow.laid w) false (World.doorLaid Tryz.prog 271 os) #[] 8 rfl (World.shaped_of_RefB (by kernel_rfl) (by kernel_rfl)) (by kernel_rfl) (by kernel_rfl) (by kernel_rfl) (door_met os _)) ?_
  intro W base args ds gs before hval0 hW _ _ hL _
  have hW' := hW
  obtain ⟨p, q, hA0, hV, rfl, hfz, hnd⟩ := hW
  have hA : DataW.TrodAll enc Tryz.prog W 0 (fun _ => true) true Tryz.f3.params.toList args.toList ds p := hA0
  rw [Tryz.params3] at hA
  obtain ⟨rfl, rfl, rfl⟩ := trodAll_none hA
  obtain ⟨rfl, rfl⟩ := trodVars_none hV
  have hM : laidMet Tryz.prog Rows.causeKnownRow.laid W := by
    rw [← MakeChecks.laidMetH_plain _ _ _ (by kernel_rfl)]
    exact hL
  refine (known_any W hM).mono fun e W' ⟨he, hb⟩ => ?_
  subst he
  exact ⟨_, rfl, [], [], _, [], [], [], hW', trodAll_mk1 (shut_bool (by kernel_rfl) true), trodAll_mk0, rfl, Below.frame hb _, fun h => by cases h⟩

theorem law_holds : Rows.CauseKnownSaid :=
  OpenClaim.holds_of_wide 3 Tryz.f3 rfl rfl rfl rfl rfl rfl rfl ⟨rfl, rfl, rfl, rfl, rfl⟩ rfl rfl rfl rfl rfl (by kernel_rfl) Tryz.func3 (by kernel_rfl)
    (of_decide_eq_true (by kernel_rfl)) (by unfold Func.isWrapper; first | (rw [if_pos (by decide +kernel)]; kernel_rfl) | (rw [if_neg (by decide +kernel)]; exact ⟨rfl, rfl⟩))
    (fun os started H enc _ => lifted os started H enc)

theorem card_holds : Rows.CauseKnownCardSaid :=
  Claim7.holds_tied_plain_at .later [] Rows.causeKnownCard.laidKinds true Rows.causeKnownCard.stood.harness Rows.causeKnownCard.stood.looks
    law_holds (fun _ h => by cases h) (by kernel_rfl) (fun _ h => by cases h) causeKnown_row_tie rfl ⟨rfl, rfl⟩ (by kernel_rfl) rfl
    (fun f fn hf hfn => by
      obtain rfl : f = 3 := Option.some.inj ((show Tryz.prog.funcNamed Rows.causeKnownRow.func = some 3 by kernel_rfl).symm.trans hf) |>.symm
      obtain rfl : fn = Tryz.f3 := (Option.some.inj (Tryz.func3.symm.trans hfn)).symm
      exact ⟨by kernel_rfl, fun j t ht => by
        rw [Tryz.params3] at ht
        simp at ht⟩)
    (by kernel_rfl)

end Go.Proofs.YtnldoldcbdgpkaaGreatDoor
