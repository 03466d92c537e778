/- The tied card of the law LowerKnown holds: it returns true in every start in which the listed variables read as the row lists them. -/
import Derived.Test.YtjafifcfbhbklaaGreatDoorJoin
import Derived.Test.YtjafifcfbhbklaaGreatDoorPartC
import Derived.Test.YtjafifcfbhbklaaGreatDoorTie
import Derived.Test.YtjafifcfbhbklaaGreatDoorCards
import Derived.Test.YtjafifcfbhbklaaGreatDoorEvD
import Derived.Test.YtjafifcfbhbklaaGreatDoorClone
import Derived.ProofKit
import Derived.LaidMore
import Derived.OpenShut
import Derived.Stop.Joined
import Derived.SevenTiedAt
namespace Go.Proofs.YtjafifcfbhbklaaGreatDoor
open Go.ChangeShapes Go.WideShapes Go.ChangeAt Go.RowKit
set_option maxHeartbeats 8000000

theorem ix_none : Extern.findNext Tryz.f281 = none := by kernel_rfl
theorem ix_find : Extern.find Tryz.f281 = some Extern.BytealgIndexByte.indexByte := by kernel_rfl
theorem known_any (w : World) (h : laidMet Tryz.prog Rows.lowerKnownRow.laid w) : Calls Tryz.prog 3 #[] w fun e w' => e = .returned (.bool true) ∧ Below w.heap.size w w' := by
  obtain ⟨φx, Dx, envx⟩ := Go.AE.Env.laidIxN nm_one pf Tryz.func281 (by kernel_rfl) (by kernel_rfl) ix_none ix_find h
  obtain ⟨φ0, D0, env0⟩ := Go.AE.Env.laidCloneN nm_one Tryz.func310 (by kernel_rfl) rfl Tryz.stringslite_Clone h envx
  obtain ⟨φ1, D1, env1⟩ := Go.AE.Env.laidTabQ nm_one h env0 tab1_ok tab1_plays
  obtain ⟨φ2, D2, env2⟩ := Go.AE.Env.laidTabQ nm_one h env1 tab2_ok tab2_plays
  have g6 := fun (cs1 : List Frame) => Go.AE.goodAt_last (f0 := 3) (cs0 := cs1) env2 partEnd
  have g5 := fun (cs1 : List Frame) => Go.AE.goodAt_via (X := fun b => Go.AE.runAt cfg2 15 52280 0 (Go.AE.gc cfg2 [25734, 26029, 26072, 26214, 26291, 26307, 26328, 26347, 26369, 26371, 26374, 26526, 26571, 26586, 26588, 30458, 30735, 30799, 30873, 30938, 30939, 31123, 31145, 31148, 31150, 31151, 31164, 31178, 31179, 31192, 31206, 31220, 31234, 31235, 31236, 31237, 31240, 32385, 32416, 32431, 32433, 32526, 32730, 32735, 32746, 32751, 32753, 32908, 32909, 33182, 33183, 46587, 46895, 46912, 46971, 47001, 47003, 47021, 47022, 47028, 47030, 47033, 47034, 47035, 47036, 47037, 47309, 47311, 47313, 47831, 47863, 47878, 47896, 48072, 48137, 51158, 51313, 52277, 52279] b) 100000000) (fun _ hb => Go.AE.runAt_sound env2 (Go.AE.gc_sound hb) 100000000) (fun b => part5 b) (g6 cs1)
  have g4 := fun (cs1 : List Frame) (n : Nat) => Go.AE.goodAt_via (X := fun b => Go.AE.runAt cfg2 113 41935 0 (Go.AE.gc cfg2 [25734, 26029, 26072, 26214, 26291, 26307, 26328, 26347, 26369, 26371, 26374, 26526, 26571, 26586, 26588, 30458, 30735, 30799, 30873, 30938, 30939, 31123, 31145, 31148, 31150, 31151, 31164, 31178, 31179, 31192, 31206, 31220, 31234, 31235, 31236, 31237, 31240, 32385, 32416, 32431, 32433, 32526, 32730, 32735, 32746, 32751, 32753, 32908, 32909, 33182, 33183, 33184, 36224, 36390, 36560, 36716, 36717, 36796, 37084, 37086, 37142, 37144, 37207, 37309, 37371, 37457, 37681, 37697, 37712, 37713, 37714, 38650, 38651, 40767, 40768, 41704, 41705] b) 100000000) (fun _ hb => Go.AE.runAt_sound env2 (Go.AE.gc_sound hb) 100000000) (fun b => part4 b n) (g5 cs1)
  have z4 := fun (cs1 : List Frame) => Go.AE.goodAt_via (X := fun b => Go.AE.runAt cfg2 113 41935 0 (Go.AE.gc cfg2 [25734, 26029, 26072, 26214, 26291, 26307, 26328, 26347, 26369, 26371, 26374, 26526, 26571, 26586, 26588, 30458, 30735, 30799, 30873, 30938, 30939, 31123, 31145, 31148, 31150, 31151, 31164, 31178, 31179, 31192, 31206, 31220, 31234, 31235, 31236, 31237, 31240, 32385, 32416, 32431, 32433, 32526, 32730, 32735, 32746, 32751, 32753, 32908, 32909, 33182, 33183, 33184, 36224, 36390, 36560, 36716, 36717, 36796, 37084, 37086, 37142, 37144, 37207, 37309, 37371, 37457, 37681, 37697, 37712, 37713, 37714, 38650, 38651, 40767, 40768, 41704, 41705] b) 100000000) (fun _ hb => Go.AE.runAt_sound env2 (Go.AE.gc_sound hb) 100000000) (fun b => part4Z b) (g5 cs1)
  have e3 : ∀ (cs1 : List Frame), ∀ u ∈ ents3, ∃ it', Go.AE.fillItem it3 u.1 = some it' ∧ ∀ n, Go.AE.GoodAt cfg2 w 3 cs1 .run todoH3 fx3 tr3 (obW3 n none) 31098 (.bool true) → Go.AE.GoodAt cfg2 w 3 cs1 .run (it' :: k3) fx3 tr3 (obW3 n (some u.2)) 31098 (.bool true) := by
    intro cs1 u hu
    unfold ents3 at hu
    simp only [List.mem_cons, List.not_mem_nil, or_false] at hu
    rcases hu with rfl | rfl | rfl | rfl | rfl
    · exact ⟨go3x0, rfl, fun n hg => Go.AE.goodAt_via (X := fun b => Go.AE.runHead cfg2 24 2 (Go.AE.castK cfg2 31097 (Go.AE.shrinkK cfg2 [25734, 26029, 26072, 26214, 26291, 26307, 26328, 26347, 26369, 26371, 26374, 26526, 26571, 26586, 26588, 30458, 30735, 30799, 30873, 30938, 30939, 31092, 31093, 31094, 31096, 31097] [0, 2, 3, 5, 8, 10, 11, 14, 18, 50, 54, 55, 56, 57, 68, 69, 70, 71, 95, 96, 97, 98, 109, 110, 111, 112, 122, 125] 31098 b)) 100000000) (fun _ hb => Go.AE.runHead_sound env2 (Go.AE.castK_sound (Go.AE.shrinkK_sound hb)) 100000000) (fun b => loopE3x0 b n) hg⟩
    · exact ⟨go3x1, rfl, fun n hg => Go.AE.goodAt_via (X := fun b => Go.AE.runHead cfg2 24 2 (Go.AE.castK cfg2 31097 (Go.AE.shrinkK cfg2 [25734, 26029, 26072, 26214, 26291, 26307, 26328, 26347, 26369, 26371, 26374, 26526, 26571, 26586, 26588, 30458, 30735, 30799, 30873, 30938, 30939, 31092, 31093, 31094, 31096, 31097] [0, 2, 3, 5, 8, 10, 11, 14, 18, 50, 54, 55, 56, 57, 68, 69, 70, 71, 95, 96, 97, 98, 109, 110, 111, 112, 122, 125] 31098 b)) 100000000) (fun _ hb => Go.AE.runHead_sound env2 (Go.AE.castK_sound (Go.AE.shrinkK_sound hb)) 100000000) (fun b => loopE3x1 b n) hg⟩
    · exact ⟨go3x2, rfl, fun n hg => Go.AE.goodAt_via (X := fun b => Go.AE.runHead cfg2 24 2 (Go.AE.castK cfg2 31097 (Go.AE.shrinkK cfg2 [25734, 26029, 26072, 26214, 26291, 26307, 26328, 26347, 26369, 26371, 26374, 26526, 26571, 26586, 26588, 30458, 30735, 30799, 30873, 30938, 30939, 31092, 31093, 31094, 31096, 31097] [0, 2, 3, 5, 8, 10, 11, 14, 18, 50, 54, 55, 56, 57, 68, 69, 70, 71, 95, 96, 97, 98, 109, 110, 111, 112, 122, 125] 31098 b)) 100000000) (fun _ hb => Go.AE.runHead_sound env2 (Go.AE.castK_sound (Go.AE.shrinkK_sound hb)) 100000000) (fun b => loopE3x2 b n) hg⟩
    · exact ⟨go3x3, rfl, fun n hg => Go.AE.goodAt_via (X := fun b => Go.AE.runHead cfg2 24 2 (Go.AE.castK cfg2 31097 (Go.AE.shrinkK cfg2 [25734, 26029, 26072, 26214, 26291, 26307, 26328, 26347, 26369, 26371, 26374, 26526, 26571, 26586, 26588, 30458, 30735, 30799, 30873, 30938, 30939, 31092, 31093, 31094, 31096, 31097] [0, 2, 3, 5, 8, 10, 11, 14, 18, 50, 54, 55, 56, 57, 68, 69, 70, 71, 95, 96, 97, 98, 109, 110, 111, 112, 122, 125] 31098 b)) 100000000) (fun _ hb => Go.AE.runHead_sound env2 (Go.AE.castK_sound (Go.AE.shrinkK_sound hb)) 100000000) (fun b => loopE3x3 b n) hg⟩
    · exact ⟨go3x4, rfl, fun n hg => Go.AE.goodAt_via (X := fun b => Go.AE.runHead cfg2 24 2 (Go.AE.castK cfg2 31097 (Go.AE.shrinkK cfg2 [25734, 26029, 26072, 26214, 26291, 26307, 26328, 26347, 26369, 26371, 26374, 26526, 26571, 26586, 26588, 30458, 30735, 30799, 30873, 30938, 30939, 31092, 31093, 31094, 31096, 31097] [0, 2, 3, 5, 8, 10, 11, 14, 18, 50, 54, 55, 56, 57, 68, 69, 70, 71, 95, 96, 97, 98, 109, 110, 111, 112, 122, 125] 31098 b)) 100000000) (fun _ hb => Go.AE.runHead_sound env2 (Go.AE.castK_sound (Go.AE.shrinkK_sound hb)) 100000000) (fun b => loopE3x4 b n) hg⟩
  have l3 := fun (cs1 : List Frame) => Go.AE.goodAt_loop env2 (v := .bool true) rfl (g4 cs1) rfl (e3 cs1) (z4 cs1) loopS3
  have i3 := fun (cs1 : List Frame) => Go.AE.goodAt_into env2 (v := .bool true) rfl (g4 cs1) rfl (e3 cs1) (l3 cs1) loopI3
  have g3 := fun (cs1 : List Frame) => Go.AE.goodAt_via (X := fun b => Go.AE.runAt cfg2 24 31098 1 (Go.AE.castK cfg2 31097 (Go.AE.shrinkK cfg2 [25734, 26029, 26072, 26214, 26291, 26307, 26328, 26347, 26369, 26371, 26374, 26526, 26571, 26586, 26588, 30458, 30735, 30799, 30873, 30938, 30939, 31092, 31093, 31094, 31096, 31097] [0, 2, 3, 5, 8, 10, 11, 14, 18, 50, 54, 55, 56, 57, 68, 69, 70, 71, 95, 96, 97, 98, 109, 110, 111, 112, 122, 125] 31098 b)) 100000000) (fun _ hb => Go.AE.runAt_sound env2 (Go.AE.castK_sound (Go.AE.shrinkK_sound hb)) 100000000) (fun b => part3 b) (i3 cs1)
  have g2 := fun (cs1 : List Frame) => Go.AE.goodAt_via (X := fun b => Go.AE.runAt cfg2 15 30461 0 (Go.AE.gc cfg2 [25734, 26029, 26072, 26214, 26291, 26307, 26328, 26347, 26363, 26369, 26371, 26374, 26375, 26376, 26377, 26378, 26526, 26530, 26571, 26586, 26588, 26590, 27017, 27074, 27919, 27979, 29555, 29738, 29740, 30458, 30460] b) 100000000) (fun _ hb => Go.AE.runAt_sound env2 (Go.AE.gc_sound hb) 100000000) (fun b => part2 b) (g3 cs1)
  have h := Go.AE.viaCall_sound (C := cfg2) env2 (X := fun b => Go.AE.runAt cfg2 110 16123 0 (Go.AE.gc cfg2 [27, 6043, 6331, 6660, 6816, 6817, 6958, 7156, 7218, 7327, 7460, 7462, 7834, 7835, 7914, 7988, 8348, 8350, 8413, 8796, 8881, 8882, 9134, 9418, 9434, 9450, 9451, 9452, 11099, 11100, 14861, 14862, 14863, 14864, 16122] b) 100000000) (fun _ _ hb => Go.AE.runAt_sound env2 (Go.AE.gc_sound hb) 100000000) (args := []) trivial part1 (fun cs1 => (g2 cs1))
  refine h.mono fun e w' ⟨⟨φ, he⟩, hb⟩ => ⟨?_, hb⟩
  rw [he]
  rfl

/-- The door's own heap meets the condition. -/
theorem door_met (os : Os) (args : Array Value) : laidMetH Tryz.prog Rows.lowerKnownRow.laid ((World.doorLaid Tryz.prog 321 os).forCall (fun _ _ => 0) ⟨#[], args, []⟩).memory :=
  laidMetH_of_parts3 (fuel := 8) (laidMet_of_run' 8 (by kernel_rfl) (by kernel_rfl)) (by kernel_rfl) (by kernel_rfl)

set_option maxRecDepth 100000 in
theorem lifted (os : Os) (started : os.Started) (H : Type) (enc : TypeId × Value → H) :
    ReturnsInHanded {} Tryz.checked os 3 .any (fun w args => (Rows.lowerKnownSpec.pre enc Tryz.prog Tryz.f3 [] false w args ∧ laidMetH Tryz.prog Rows.lowerKnownRow.laid w) ∧ sizedMet enc Tryz.prog Tryz.f3 (OpenSpec.ofChange Rows.lowerKnownSpec) false w args)
      (Rows.lowerKnownSpec.post enc Tryz.prog Tryz.f3 false true false false) := by
  refine returnsInHanded_of_change_and (C := Tryz.checked) (X := fun w _ => laidMetH Tryz.prog Rows.lowerKnownRow.laid w) (fun _ _ _ hh h => h.of_heap hh) Tryz.own started (by kernel_rfl) Tryz.func3
    (ChangeSpec.witness_shaped (enc := enc) (C := Tryz.checked) (os := os) (X := fun w _ => laidMetH Tryz.prog Rows.lowerKnownRow.laid w) false (World.doorLaid Tryz.prog 321 os) #[] 8 rfl (World.shaped_of_RefB (by kernel_rfl) (by kernel_rfl)) (by kernel_rfl) (by kernel_rfl) (by kernel_rfl) (door_met os _)) ?_
  intro W base args ds gs before hval0 hW _ _ hL _
  have hW' := hW
  obtain ⟨p, q, hA0, hV, rfl, hfz, hnd⟩ := hW
  have hA : DataW.TrodAll enc Tryz.prog W 0 (fun _ => true) true Tryz.f3.params.toList args.toList ds p := hA0
  rw [Tryz.params3] at hA
  obtain ⟨rfl, rfl, rfl⟩ := trodAll_none hA
  obtain ⟨rfl, rfl⟩ := trodVars_none hV
  have hM : laidMet Tryz.prog Rows.lowerKnownRow.laid W := by
    rw [← MakeChecks.laidMetH_plain _ _ _ (by kernel_rfl)]
    exact hL
  refine (known_any W hM).mono fun e W' ⟨he, hb⟩ => ?_
  subst he
  exact ⟨_, rfl, [], [], _, [], [], [], hW', trodAll_mk1 (shut_bool (by kernel_rfl) true), trodAll_mk0, rfl, Below.frame hb _, fun h => by cases h⟩

theorem law_holds : Rows.LowerKnownSaid :=
  OpenClaim.holds_of_wide 3 Tryz.f3 rfl rfl rfl rfl rfl rfl rfl ⟨rfl, rfl, rfl, rfl, rfl⟩ rfl rfl rfl rfl rfl (by as_aux_lemma => kernel_rfl) Tryz.func3 joined
    (of_decide_eq_true (by as_aux_lemma => kernel_rfl)) (by unfold Func.isWrapper; first | (rw [if_pos (by decide +kernel)]; kernel_rfl) | (rw [if_neg (by decide +kernel)]; exact ⟨rfl, rfl⟩))
    (fun os started H enc _ => lifted os started H enc)

theorem card_holds : Rows.LowerKnownCardSaid :=
  Claim7.holds_tied_plain_at .later [] Rows.lowerKnownCard.laidKinds true Rows.lowerKnownCard.stood.harness Rows.lowerKnownCard.stood.looks
    law_holds (fun _ h => by cases h) (by as_aux_lemma => kernel_rfl) (fun _ h => by cases h) lowerKnown_row_tie rfl ⟨rfl, rfl⟩ (by as_aux_lemma => kernel_rfl) rfl
    (fun f fn hf hfn => by
      obtain rfl : f = 3 := Option.some.inj ((show Tryz.prog.funcNamed Rows.lowerKnownRow.func = some 3 by kernel_rfl).symm.trans hf) |>.symm
      obtain rfl : fn = Tryz.f3 := (Option.some.inj (Tryz.func3.symm.trans hfn)).symm
      exact ⟨by kernel_rfl, fun j t ht => by
        rw [Tryz.params3] at ht
        simp at ht⟩)
    (by as_aux_lemma => kernel_rfl)

end Go.Proofs.YtjafifcfbhbklaaGreatDoor
