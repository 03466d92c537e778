/- The tied card of the law ClocksKnown holds: it returns true in every start in which the listed variables read as the program's text lays them. -/
import Derived.Test.YtheimkmgpehlpaaGreatDoorTie
import Derived.Test.YtheimkmgpehlpaaGreatDoorCards
import Derived.Test.YtheimkmgpehlpaaGreatDoorEvD
import Derived.ProofKit
import Derived.LaidMore
import Derived.OpenShut
import Derived.Stop.Joined
import Derived.SevenTiedAt
namespace Go.Proofs.YtheimkmgpehlpaaGreatDoor
open Go.ChangeShapes Go.WideShapes Go.ChangeAt Go.RowKit

theorem Tryz.own : ownKnob Tryz.prog.godebug = none := by kernel_rfl
theorem names_ok : (Tryz.prog.funcs.toList.all fun fn => !fn.body.isSome || !(fn.name == "runtime.NumGoroutine")) = true := by kernel_rfl
theorem mixed_ok : Tryz.prog.follows .mixedOrders = true := by kernel_rfl
theorem pf : Go.AE.PF Tryz.prog := by
  refine ⟨mixed_ok, fun f fn hf hb => ?_⟩
  have hm : fn ∈ Tryz.prog.funcs.toList := Array.mem_toList_iff.2 (Array.mem_of_getElem? hf)
  have h := List.all_eq_true.1 names_ok fn hm
  rw [hb] at h
  simpa using h
noncomputable def lv : Nat × List (Nat × Go.AE.AObj) := Go.AE.layVars Tryz.prog Rows.clocksKnownRow.laid Tryz.prog.globals.size
noncomputable def cfg0 : Go.AE.Cfg := ⟨Tryz.prog, Go.AE.setAll lv.2 .nil, lv.1, Go.AE.orcIx 99, Tryz.prog.globals.size⟩
noncomputable def tab1x0 : List (Nat × List Go.AE.AV × Go.AE.AV) := [
  (4, [.str [110, 111, 100, 101, 32, 102, 40, 99, 58, 32, 98, 111, 111, 108, 59, 32, 120, 58, 32, 117, 56, 32, 119, 104, 101, 110, 32, 99, 41, 32, 114, 101, 116, 117, 114, 110, 115, 32, 40, 121, 58, 32, 117, 56, 41, 32, 108, 101, 116, 32, 121, 32, 61, 32, 48, 117, 56, 59, 32, 116, 101, 108]], .agg [.int .i64 (27), .int .i64 (27)]),
  (4, [.str [110, 111, 100, 101, 32, 102, 40, 99, 58, 32, 98, 111, 111, 108, 41, 32, 114, 101, 116, 117, 114, 110, 115, 32, 40, 121, 58, 32, 117, 56, 32, 119, 104, 101, 110, 32, 99, 41, 32, 108, 101, 116, 32, 121, 32, 61, 32, 48, 117, 56, 59, 32, 116, 101, 108]], .agg [.int .i64 (0), .int .i64 (0)]),
  (4, [.str [110, 111, 100, 101, 32, 102, 40, 99, 58, 32, 98, 111, 111, 108, 41, 32, 114, 101, 116, 117, 114, 110, 115, 32, 40, 121, 58, 32, 117, 56, 32, 119, 104, 101, 110, 32, 99, 41, 32, 108, 101, 116, 32, 121, 32, 61, 32, 48, 117, 56, 59, 32, 116, 101, 108, 32, 110, 111, 100, 101, 32, 103, 40, 41, 32, 114, 101, 116, 117, 114, 110, 115, 32, 40, 120, 58, 32, 98, 111, 111, 108, 41, 32, 108, 101, 116, 32, 120, 32, 61, 32, 116, 114, 117, 101, 59, 32, 116, 101, 108]], .agg [.int .i64 (27), .int .i64 (36)])]
theorem plays1x0 : Go.AE.tabPlays cfg0 100000000 tab1x0 = true := by kernel_rfl
noncomputable def tab1x1 : List (Nat × List Go.AE.AV × Go.AE.AV) := [
  (4, [.str [110, 111, 100, 101, 32, 102, 40, 41, 32, 114, 101, 116, 117, 114, 110, 115, 32, 40, 97, 58, 32, 98, 111, 111, 108, 32, 119, 104, 101, 110, 32, 98, 59, 32, 98, 58, 32, 98, 111, 111, 108, 32, 119, 104, 101, 110, 32, 110, 111, 116, 32, 97, 41, 32, 108, 101, 116, 32, 97, 32, 61, 32, 116, 114, 117, 101, 59, 32, 98, 32, 61, 32, 116, 114, 117, 101, 59, 32, 116, 101, 108]], .agg [.int .i64 (25), .int .i64 (31)]),
  (4, [.str [110, 111, 100, 101, 32, 102, 40, 41, 32, 114, 101, 116, 117, 114, 110, 115, 32, 40, 97, 58, 32, 98, 111, 111, 108, 32, 119, 104, 101, 110, 32, 97, 41, 32, 108, 101, 116, 32, 97, 32, 61, 32, 116, 114, 117, 101, 59, 32, 116, 101, 108]], .agg [.int .i64 (25), .int .i64 (31)]),
  (4, [.str [110, 111, 100, 101, 32, 102, 40, 99, 58, 32, 98, 111, 111, 108, 41, 32, 114, 101, 116, 117, 114, 110, 115, 32, 40, 121, 58, 32, 98, 111, 111, 108, 32, 119, 104, 101, 110, 32, 99, 41, 32, 108, 101, 116, 32, 121, 32, 61, 32, 99, 32, 119, 104, 101, 110, 32, 110, 111, 116, 32, 99, 59, 32, 116, 101, 108]], .agg [.int .i64 (27), .int .i64 (51)])]
theorem plays1x1 : Go.AE.tabPlays cfg0 100000000 tab1x1 = true := by kernel_rfl
noncomputable def tab1x2 : List (Nat × List Go.AE.AV × Go.AE.AV) := [
  (4, [.str [110, 111, 100, 101, 32, 102, 40, 99, 58, 32, 98, 111, 111, 108, 41, 32, 114, 101, 116, 117, 114, 110, 115, 32, 40, 121, 58, 32, 98, 111, 111, 108, 41, 32, 108, 101, 116, 32, 121, 32, 61, 32, 109, 101, 114, 103, 101, 32, 99, 32, 40, 99, 41, 32, 40, 116, 114, 117, 101, 41, 59, 32, 116, 101, 108]], .agg [.int .i64 (27), .int .i64 (51)]),
  (4, [.str [110, 111, 100, 101, 32, 102, 40, 99, 58, 32, 98, 111, 111, 108, 41, 32, 114, 101, 116, 117, 114, 110, 115, 32, 40, 121, 58, 32, 98, 111, 111, 108, 41, 32, 108, 101, 116, 32, 121, 32, 61, 32, 109, 101, 114, 103, 101, 32, 99, 32, 40, 99, 32, 119, 104, 101, 110, 32, 99, 41, 32, 40, 99, 32, 119, 104, 101, 110, 32, 110, 111, 116, 32, 99, 41, 59, 32, 116, 101, 108]], .agg [.int .i64 (0), .int .i64 (0)])]
theorem plays1x2 : Go.AE.tabPlays cfg0 100000000 tab1x2 = true := by kernel_rfl
noncomputable def tab1x3 : List (Nat × List Go.AE.AV × Go.AE.AV) := [
  (4, [.str [110, 111, 100, 101, 32, 103, 40, 41, 32, 114, 101, 116, 117, 114, 110, 115, 32, 40, 97, 44, 32, 98, 58, 32, 98, 111, 111, 108, 41, 32, 108, 101, 116, 32, 97, 32, 61, 32, 116, 114, 117, 101, 59, 32, 98, 32, 61, 32, 97, 59, 32, 116, 101, 108, 32, 110, 111, 100, 101, 32, 102, 40, 99, 58, 32, 98, 111, 111, 108, 41, 32, 114, 101, 116, 117, 114, 110, 115, 32, 40, 121, 58, 32, 98, 111, 111, 108, 41, 32, 118, 97, 114, 32, 122, 58, 32, 98, 111, 111, 108, 32, 119, 104, 101, 110, 32, 99, 59, 32, 108, 101, 116, 32, 40, 121, 44, 32, 122, 41, 32, 61, 32, 103, 40, 41, 59, 32, 116, 101, 108]], .agg [.int .i64 (27), .int .i64 (120)])]
theorem plays1x3 : Go.AE.tabPlays cfg0 100000000 tab1x3 = true := by kernel_rfl
noncomputable def tab1x4 : List (Nat × List Go.AE.AV × Go.AE.AV) := [
  (4, [.str [110, 111, 100, 101, 32, 102, 40, 99, 58, 32, 98, 111, 111, 108, 59, 32, 120, 58, 32, 117, 56, 41, 32, 114, 101, 116, 117, 114, 110, 115, 32, 40, 121, 58, 32, 117, 56, 41, 32, 118, 97, 114, 32, 122, 58, 32, 117, 56, 32, 119, 104, 101, 110, 32, 99, 59, 32, 108, 101, 116, 32, 122, 32, 61, 32, 120, 32, 119, 104, 101, 110, 32, 99, 59, 32, 121, 32, 61, 32, 109, 101, 114, 103, 101, 32, 99, 32, 40, 122, 41, 32, 40, 48, 117, 56, 41, 59, 32, 116, 101, 108]], .agg [.int .i64 (0), .int .i64 (0)]),
  (4, [.str [110, 111, 100, 101, 32, 102, 40, 99, 58, 32, 98, 111, 111, 108, 59, 32, 120, 58, 32, 117, 56, 41, 32, 114, 101, 116, 117, 114, 110, 115, 32, 40, 121, 58, 32, 117, 56, 41, 32, 118, 97, 114, 32, 122, 58, 32, 117, 56, 32, 119, 104, 101, 110, 32, 99, 59, 32, 108, 101, 116, 32, 122, 32, 61, 32, 120, 59, 32, 121, 32, 61, 32, 120, 59, 32, 116, 101, 108]], .agg [.int .i64 (27), .int .i64 (65)])]
theorem plays1x4 : Go.AE.tabPlays cfg0 100000000 tab1x4 = true := by kernel_rfl
noncomputable def tab1x5 : List (Nat × List Go.AE.AV × Go.AE.AV) := [
  (4, [.str [110, 111, 100, 101, 32, 102, 40, 99, 58, 32, 98, 111, 111, 108, 59, 32, 120, 58, 32, 117, 56, 41, 32, 114, 101, 116, 117, 114, 110, 115, 32, 40, 121, 58, 32, 117, 56, 41, 32, 118, 97, 114, 32, 122, 58, 32, 117, 56, 32, 119, 104, 101, 110, 32, 99, 59, 32, 108, 101, 116, 32, 122, 32, 61, 32, 120, 32, 119, 104, 101, 110, 32, 99, 59, 32, 121, 32, 61, 32, 120, 32, 43, 32, 40, 120, 32, 119, 104, 101, 110, 32, 99, 41, 59, 32, 116, 101, 108]], .agg [.int .i64 (27), .int .i64 (86)])]
theorem plays1x5 : Go.AE.tabPlays cfg0 100000000 tab1x5 = true := by kernel_rfl
noncomputable def tab1 : List (Nat × List Go.AE.AV × Go.AE.AV) := tab1x0 ++ (tab1x1 ++ (tab1x2 ++ (tab1x3 ++ (tab1x4 ++ (tab1x5)))))
theorem tab1_ok : Go.AE.tabOk tab1 = true := by kernel_rfl
theorem tab1_plays : ∀ x ∈ tab1, ∃ m, Go.AE.runCall cfg0 m x.1 x.2.1 = some x.2.2 := Go.AE.tabPlays_app (Go.AE.tabPlays_mem plays1x0) (Go.AE.tabPlays_app (Go.AE.tabPlays_mem plays1x1) (Go.AE.tabPlays_app (Go.AE.tabPlays_mem plays1x2) (Go.AE.tabPlays_app (Go.AE.tabPlays_mem plays1x3) (Go.AE.tabPlays_app (Go.AE.tabPlays_mem plays1x4) (Go.AE.tabPlays_mem plays1x5)))))
noncomputable def cfg1 : Go.AE.Cfg := ⟨Tryz.prog, Go.AE.setAll lv.2 .nil, lv.1, Go.AE.orcTab (Go.AE.orcIx 99) tab1, Tryz.prog.globals.size⟩
theorem played : Go.AE.runCall cfg1 100000000 3 [] = some (.bool true) := by kernel_rfl
theorem ix_none : Extern.findNext Tryz.f99 = none := by kernel_rfl
theorem ix_find : Extern.find Tryz.f99 = some Extern.BytealgIndexByte.indexByte := by kernel_rfl
theorem known_any (w : World) (h : laidMet Tryz.prog Rows.clocksKnownRow.laid w) : Calls Tryz.prog 3 #[] w fun e w' => e = .returned (.bool true) ∧ Below w.heap.size w w' := by
  obtain ⟨φ0, D0, env0⟩ := Go.AE.Env.laidIx pf Tryz.func99 (by kernel_rfl) (by kernel_rfl) ix_none ix_find h
  obtain ⟨φ1, D1, env1⟩ := Go.AE.Env.laidTab h env0 tab1_ok tab1_plays
  have h := Go.AE.runCall_sound (C := cfg1) env1 (f := 3) (args := []) trivial played
  refine h.mono fun e w' ⟨⟨φ, he⟩, hb⟩ => ⟨?_, hb⟩
  rw [he]
  rfl

/-- The door's own heap meets the condition. -/
theorem door_met (os : Os) (args : Array Value) : laidMetH Tryz.prog Rows.clocksKnownRow.laid ((World.doorLaid Tryz.prog 271 os).forCall (fun _ _ => 0) ⟨#[], args, []⟩).memory :=
  laidMetH_of_parts3 (fuel := 8) (laidMet_of_run' 8 (by kernel_rfl) (by kernel_rfl)) (by kernel_rfl) (by kernel_rfl)

set_option maxRecDepth 100000 in
theorem lifted (os : Os) (started : os.Started) (H : Type) (enc : TypeId × Value → H) :
    ReturnsInHanded {} Tryz.checked os 3 .any (fun w args => (Rows.clocksKnownSpec.pre enc Tryz.prog Tryz.f3 [] false w args ∧ laidMetH Tryz.prog Rows.clocksKnownRow.laid w) ∧ sizedMet enc Tryz.prog Tryz.f3 (OpenSpec.ofChange Rows.clocksKnownSpec) false w args)
      (Rows.clocksKnownSpec.post enc Tryz.prog Tryz.f3 false true false false) := by
  refine returnsInHanded_of_change_and (C := Tryz.checked) (X := fun w _ => laidMetH Tryz.prog Rows.clocksKnownRow.laid w) (fun _ _ _ hh h => h.of_heap hh) Tryz.own started (by kernel_rfl) Tryz.func3
    (ChangeSpec.witness_shaped (enc := enc) (C := Tryz.checked) (os := os) (X := fun w _ => laidMetH Tryz.prog Rows.clocksKnownRow.laid w) false (World.doorLaid Tryz.prog 271 os) #[] 8 rfl (World.shaped_of_RefB (by kernel_rfl) (by kernel_rfl)) (by kernel_rfl) (by kernel_rfl) (by kernel_rfl) (door_met os _)) ?_
  intro W base args ds gs before hval0 hW _ _ hL _
  have hW' := hW
  obtain ⟨p, q, hA0, hV, rfl, hfz, hnd⟩ := hW
  have hA : DataW.TrodAll enc Tryz.prog W 0 (fun _ => true) true Tryz.f3.params.toList args.toList ds p := hA0
  rw [Tryz.params3] at hA
  obtain ⟨rfl, rfl, rfl⟩ := trodAll_none hA
  obtain ⟨rfl, rfl⟩ := trodVars_none hV
  have hM : laidMet Tryz.prog Rows.clocksKnownRow.laid W := by
    rw [← MakeChecks.laidMetH_plain _ _ _ (by kernel_rfl)]
    exact hL
  refine (known_any W hM).mono fun e W' ⟨he, hb⟩ => ?_
  subst he
  exact ⟨_, rfl, [], [], _, [], [], [], hW', trodAll_mk1 (shut_bool (by kernel_rfl) true), trodAll_mk0, rfl, Below.frame hb _, fun h => by cases h⟩

theorem law_holds : Rows.ClocksKnownSaid :=
  OpenClaim.holds_of_wide 3 Tryz.f3 rfl rfl rfl rfl rfl rfl rfl ⟨rfl, rfl, rfl, rfl, rfl⟩ rfl rfl rfl rfl rfl (by kernel_rfl) Tryz.func3 (by kernel_rfl)
    (of_decide_eq_true (by kernel_rfl)) (by unfold Func.isWrapper; first | (rw [if_pos (by decide +kernel)]; kernel_rfl) | (rw [if_neg (by decide +kernel)]; exact ⟨rfl, rfl⟩))
    (fun os started H enc _ => lifted os started H enc)

theorem card_holds : Rows.ClocksKnownCardSaid :=
  Claim7.holds_tied_plain_at .later [] Rows.clocksKnownCard.laidKinds true Rows.clocksKnownCard.stood.harness Rows.clocksKnownCard.stood.looks
    law_holds (fun _ h => by cases h) (by kernel_rfl) (fun _ h => by cases h) clocksKnown_row_tie rfl ⟨rfl, rfl⟩ (by kernel_rfl) rfl
    (fun f fn hf hfn => by
      obtain rfl : f = 3 := Option.some.inj ((show Tryz.prog.funcNamed Rows.clocksKnownRow.func = some 3 by kernel_rfl).symm.trans hf) |>.symm
      obtain rfl : fn = Tryz.f3 := (Option.some.inj (Tryz.func3.symm.trans hfn)).symm
      exact ⟨by kernel_rfl, fun j t ht => by
        rw [Tryz.params3] at ht
        simp at ht⟩)
    (by kernel_rfl)

end Go.Proofs.YtheimkmgpehlpaaGreatDoor
