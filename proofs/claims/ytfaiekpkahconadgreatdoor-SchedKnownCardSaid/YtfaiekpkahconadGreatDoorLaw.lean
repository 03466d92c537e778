/- The tied card of the law SchedKnown holds: it returns true in every start in which the listed variables read as the row lists them. -/
import Derived.Test.YtfaiekpkahconadGreatDoorPartB
import Derived.Test.YtfaiekpkahconadGreatDoorTie
import Derived.Test.YtfaiekpkahconadGreatDoorCards
import Derived.Test.YtfaiekpkahconadGreatDoorEvD
import Derived.Test.YtfaiekpkahconadGreatDoorClone
import Derived.ProofKit
import Derived.LaidMore
import Derived.OpenShut
import Derived.Stop.Joined
import Derived.SevenTiedAt
namespace Go.Proofs.YtfaiekpkahconadGreatDoor
open Go.ChangeShapes Go.WideShapes Go.ChangeAt Go.RowKit

theorem ix_none : Extern.findNext Tryz.f171 = none := by kernel_rfl
theorem ix_find : Extern.find Tryz.f171 = some Extern.BytealgIndexByte.indexByte := by kernel_rfl
theorem known_any (w : World) (h : laidMet Tryz.prog Rows.schedKnownRow.laid w) : Calls Tryz.prog 3 #[] w fun e w' => e = .returned (.bool true) ∧ Below w.heap.size w w' := by
  obtain ⟨φx, Dx, envx⟩ := Go.AE.Env.laidIxN nm_one pf Tryz.func171 (by kernel_rfl) (by kernel_rfl) ix_none ix_find h
  obtain ⟨φ0, D0, env0⟩ := Go.AE.Env.laidCloneN nm_one Tryz.func192 (by kernel_rfl) rfl Tryz.stringslite_Clone h envx
  obtain ⟨φ1, D1, env1⟩ := Go.AE.Env.laidTabQ nm_one h env0 tab1_ok tab1_plays
  obtain ⟨φ2, D2, env2⟩ := Go.AE.Env.laidTabQ nm_one h env1 tab2_ok tab2_plays
  have g4 := fun (cs1 : List Frame) => Go.AE.goodAt_last (f0 := 3) (cs0 := cs1) env2 partEnd
  have g3 := fun (cs1 : List Frame) => Go.AE.goodAt_via (X := fun b => Go.AE.runAt cfg2 40 38900 0 (Go.AE.gc cfg2 [21006, 21169, 21281, 21297, 21352, 21408, 21565, 21571, 21572, 24876, 24883, 25013, 25237, 25871, 25872, 25925, 28965, 29131, 29301, 29457, 29458, 29537, 29825, 29827, 29883, 29885, 29948, 30050, 30112, 30198, 30422, 30438, 30453, 30454, 34677, 34678, 35614, 35615, 38899] b) 100000000) (fun _ hb => Go.AE.runAt_sound env2 (Go.AE.gc_sound hb) 100000000) (fun b => part3 b) (g4 cs1)
  have g2 := fun (cs1 : List Frame) => Go.AE.goodAt_via (X := fun b => Go.AE.runAt cfg2 72 26077 0 (Go.AE.gc cfg2 [21006, 21169, 21281, 21297, 21352, 21408, 21565, 21571, 21572, 24876, 24883, 25013, 25237, 25871, 25872, 25925, 25926, 25927, 25928, 25929, 25986, 25999, 26075, 26076] b) 100000000) (fun _ hb => Go.AE.runAt_sound env2 (Go.AE.gc_sound hb) 100000000) (fun b => part2 b) (g3 cs1)
  have h := Go.AE.viaCall_sound (C := cfg2) env2 (X := fun b => Go.AE.runAt cfg2 79 14151 0 (Go.AE.gc cfg2 [31, 5547, 5713, 5920, 6233, 6374, 6375, 6415, 6417, 6480, 6862, 6863, 6942, 7199, 7201, 7225, 7227, 7290, 7672, 7673, 7752, 8052, 8068, 8085, 8086, 8087, 9385, 9386, 12437, 12438, 13736, 13737] b) 100000000) (fun _ _ hb => Go.AE.runAt_sound env2 (Go.AE.gc_sound hb) 100000000) (args := []) trivial part1 (fun cs1 => (g2 cs1))
  refine h.mono fun e w' ⟨⟨φ, he⟩, hb⟩ => ⟨?_, hb⟩
  rw [he]
  rfl

/-- The door's own heap meets the condition. -/
theorem door_met (os : Os) (args : Array Value) : laidMetH Tryz.prog Rows.schedKnownRow.laid ((World.doorLaid Tryz.prog 351 os).forCall (fun _ _ => 0) ⟨#[], args, []⟩).memory :=
  laidMetH_of_parts3 (fuel := 8) (laidMet_of_run' 8 (by kernel_rfl) (by kernel_rfl)) (by kernel_rfl) (by kernel_rfl)

set_option maxRecDepth 100000 in
theorem lifted (os : Os) (started : os.Started) (H : Type) (enc : TypeId × Value → H) :
    ReturnsInHanded {} Tryz.checked os 3 .any (fun w args => (Rows.schedKnownSpec.pre enc Tryz.prog Tryz.f3 [] false w args ∧ laidMetH Tryz.prog Rows.schedKnownRow.laid w) ∧ sizedMet enc Tryz.prog Tryz.f3 (OpenSpec.ofChange Rows.schedKnownSpec) false w args)
      (Rows.schedKnownSpec.post enc Tryz.prog Tryz.f3 false true false false) := by
  refine returnsInHanded_of_change_and (C := Tryz.checked) (X := fun w _ => laidMetH Tryz.prog Rows.schedKnownRow.laid w) (fun _ _ _ hh h => h.of_heap hh) Tryz.own started (by kernel_rfl) Tryz.func3
    (ChangeSpec.witness_shaped (enc := enc) (C := Tryz.checked) (os := os) (X := fun w _ => laidMetH Tryz.prog Rows.schedKnownRow.laid w) false (World.doorLaid Tryz.prog 351 os) #[] 8 rfl (World.shaped_of_RefB (by kernel_rfl) (by kernel_rfl)) (by kernel_rfl) (by kernel_rfl) (by kernel_rfl) (door_met os _)) ?_
  intro W base args ds gs before hval0 hW _ _ hL _
  have hW' := hW
  obtain ⟨p, q, hA0, hV, rfl, hfz, hnd⟩ := hW
  have hA : DataW.TrodAll enc Tryz.prog W 0 (fun _ => true) true Tryz.f3.params.toList args.toList ds p := hA0
  rw [Tryz.params3] at hA
  obtain ⟨rfl, rfl, rfl⟩ := trodAll_none hA
  obtain ⟨rfl, rfl⟩ := trodVars_none hV
  have hM : laidMet Tryz.prog Rows.schedKnownRow.laid W := by
    rw [← MakeChecks.laidMetH_plain _ _ _ (by kernel_rfl)]
    exact hL
  refine (known_any W hM).mono fun e W' ⟨he, hb⟩ => ?_
  subst he
  exact ⟨_, rfl, [], [], _, [], [], [], hW', trodAll_mk1 (shut_bool (by kernel_rfl) true), trodAll_mk0, rfl, Below.frame hb _, fun h => by cases h⟩

theorem law_holds : Rows.SchedKnownSaid :=
  OpenClaim.holds_of_wide 3 Tryz.f3 rfl rfl rfl rfl rfl rfl rfl ⟨rfl, rfl, rfl, rfl, rfl⟩ rfl rfl rfl rfl rfl (by kernel_rfl) Tryz.func3 (by kernel_rfl)
    (of_decide_eq_true (by kernel_rfl)) (by unfold Func.isWrapper; first | (rw [if_pos (by decide +kernel)]; kernel_rfl) | (rw [if_neg (by decide +kernel)]; exact ⟨rfl, rfl⟩))
    (fun os started H enc _ => lifted os started H enc)

theorem card_holds : Rows.SchedKnownCardSaid :=
  Claim7.holds_tied_plain_at .later [] Rows.schedKnownCard.laidKinds true Rows.schedKnownCard.stood.harness Rows.schedKnownCard.stood.looks
    law_holds (fun _ h => by cases h) (by kernel_rfl) (fun _ h => by cases h) schedKnown_row_tie rfl ⟨rfl, rfl⟩ (by kernel_rfl) rfl
    (fun f fn hf hfn => by
      obtain rfl : f = 3 := Option.some.inj ((show Tryz.prog.funcNamed Rows.schedKnownRow.func = some 3 by kernel_rfl).symm.trans hf) |>.symm
      obtain rfl : fn = Tryz.f3 := (Option.some.inj (Tryz.func3.symm.trans hfn)).symm
      exact ⟨by kernel_rfl, fun j t ht => by
        rw [Tryz.params3] at ht
        simp at ht⟩)
    (by kernel_rfl)

end Go.Proofs.YtfaiekpkahconadGreatDoor
