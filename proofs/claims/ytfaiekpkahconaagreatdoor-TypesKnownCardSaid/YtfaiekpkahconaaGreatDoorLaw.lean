/- The tied card of the law TypesKnown holds: it returns true in every start in which the listed variables read as the row lists them. -/
import Derived.Test.YtfaiekpkahconaaGreatDoorPartF
import Derived.Test.YtfaiekpkahconaaGreatDoorTie
import Derived.Test.YtfaiekpkahconaaGreatDoorCards
import Derived.Test.YtfaiekpkahconaaGreatDoorEvD
import Derived.Test.YtfaiekpkahconaaGreatDoorClone
import Derived.ProofKit
import Derived.LaidMore
import Derived.OpenShut
import Derived.Stop.Joined
import Derived.SevenTiedAt
namespace Go.Proofs.YtfaiekpkahconaaGreatDoor
open Go.ChangeShapes Go.WideShapes Go.ChangeAt Go.RowKit

theorem ix_none : Extern.findNext Tryz.f93 = none := by kernel_rfl
theorem ix_find : Extern.find Tryz.f93 = some Extern.BytealgIndexByte.indexByte := by kernel_rfl
theorem known_any (w : World) (h : laidMet Tryz.prog Rows.typesKnownRow.laid w) : Calls Tryz.prog 3 #[] w fun e w' => e = .returned (.bool true) ∧ Below w.heap.size w w' := by
  obtain ⟨φx, Dx, envx⟩ := Go.AE.Env.laidIxN nm_one pf Tryz.func93 (by kernel_rfl) (by kernel_rfl) ix_none ix_find h
  obtain ⟨φ0, D0, env0⟩ := Go.AE.Env.laidCloneN nm_one Tryz.func119 (by kernel_rfl) rfl Tryz.stringslite_Clone h envx
  obtain ⟨φ1, D1, env1⟩ := Go.AE.Env.laidTabQ nm_one h env0 tab1_ok tab1_plays
  obtain ⟨φ2, D2, env2⟩ := Go.AE.Env.laidTabQ nm_one h env1 tab2_ok tab2_plays
  have g5 := fun (cs1 : List Frame) => Go.AE.goodAt_last (f0 := 3) (cs0 := cs1) env2 partEnd
  have g4 := fun (cs1 : List Frame) (n : Nat) => Go.AE.goodAt_via (X := fun b => Go.AE.runAt cfg2 22 17788 0 (Go.AE.gc cfg2 [26, 37, 5921, 11309, 16562, 16563, 16564, 16565, 16566, 16567, 16568, 17774, 17787] b) 100000000) (fun _ hb => Go.AE.runAt_sound env2 (Go.AE.gc_sound hb) 100000000) (fun b => part4 b n) (g5 cs1)
  have z4 := fun (cs1 : List Frame) => Go.AE.goodAt_via (X := fun b => Go.AE.runAt cfg2 22 17788 0 (Go.AE.gc cfg2 [26, 37, 5921, 11309, 16562, 16563, 16564, 16565, 16566, 16567, 16568, 17774, 17787] b) 100000000) (fun _ hb => Go.AE.runAt_sound env2 (Go.AE.gc_sound hb) 100000000) (fun b => part4Z b) (g5 cs1)
  have e3 : ∀ (cs1 : List Frame), ∀ u ∈ ents3, ∃ it', Go.AE.fillItem it3 u.1 = some it' ∧ ∀ n, Go.AE.GoodAt cfg2 w 3 cs1 .run todoH3 fx3 tr3 (obW3 n none) 28 (.bool true) → Go.AE.GoodAt cfg2 w 3 cs1 .run (it' :: k3) fx3 tr3 (obW3 n (some u.2)) 28 (.bool true) := by
    intro cs1 u hu
    unfold ents3 at hu
    simp only [List.mem_cons, List.not_mem_nil, or_false] at hu
    rcases hu with rfl | rfl | rfl | rfl | rfl | rfl | rfl | rfl | rfl
    · exact ⟨go3x0, rfl, fun n hg => Go.AE.goodAt_via (X := fun b => Go.AE.runHead cfg2 3 2 (Go.AE.castK cfg2 27 (Go.AE.shrinkK cfg2 [24, 26, 27] [0, 9, 24, 46, 71] 28 b)) 100000000) (fun _ hb => Go.AE.runHead_sound env2 (Go.AE.castK_sound (Go.AE.shrinkK_sound hb)) 100000000) (fun b => loopE3x0 b n) hg⟩
    · exact ⟨go3x1, rfl, fun n hg => Go.AE.goodAt_via (X := fun b => Go.AE.runHead cfg2 3 2 (Go.AE.castK cfg2 27 (Go.AE.shrinkK cfg2 [24, 26, 27] [0, 9, 24, 46, 71] 28 b)) 100000000) (fun _ hb => Go.AE.runHead_sound env2 (Go.AE.castK_sound (Go.AE.shrinkK_sound hb)) 100000000) (fun b => loopE3x1 b n) hg⟩
    · exact ⟨go3x2, rfl, fun n hg => Go.AE.goodAt_via (X := fun b => Go.AE.runHead cfg2 3 2 (Go.AE.castK cfg2 27 (Go.AE.shrinkK cfg2 [24, 26, 27] [0, 9, 24, 46, 71] 28 b)) 100000000) (fun _ hb => Go.AE.runHead_sound env2 (Go.AE.castK_sound (Go.AE.shrinkK_sound hb)) 100000000) (fun b => loopE3x2 b n) hg⟩
    · exact ⟨go3x3, rfl, fun n hg => Go.AE.goodAt_via (X := fun b => Go.AE.runHead cfg2 3 2 (Go.AE.castK cfg2 27 (Go.AE.shrinkK cfg2 [24, 26, 27] [0, 9, 24, 46, 71] 28 b)) 100000000) (fun _ hb => Go.AE.runHead_sound env2 (Go.AE.castK_sound (Go.AE.shrinkK_sound hb)) 100000000) (fun b => loopE3x3 b n) hg⟩
    · exact ⟨go3x4, rfl, fun n hg => Go.AE.goodAt_via (X := fun b => Go.AE.runHead cfg2 3 2 (Go.AE.castK cfg2 27 (Go.AE.shrinkK cfg2 [24, 26, 27] [0, 9, 24, 46, 71] 28 b)) 100000000) (fun _ hb => Go.AE.runHead_sound env2 (Go.AE.castK_sound (Go.AE.shrinkK_sound hb)) 100000000) (fun b => loopE3x4 b n) hg⟩
    · exact ⟨go3x5, rfl, fun n hg => Go.AE.goodAt_via (X := fun b => Go.AE.runHead cfg2 3 2 (Go.AE.castK cfg2 27 (Go.AE.shrinkK cfg2 [24, 26, 27] [0, 9, 24, 46, 71] 28 b)) 100000000) (fun _ hb => Go.AE.runHead_sound env2 (Go.AE.castK_sound (Go.AE.shrinkK_sound hb)) 100000000) (fun b => loopE3x5 b n) hg⟩
    · exact ⟨go3x6, rfl, fun n hg => Go.AE.goodAt_via (X := fun b => Go.AE.runHead cfg2 3 2 (Go.AE.castK cfg2 27 (Go.AE.shrinkK cfg2 [24, 26, 27] [0, 9, 24, 46, 71] 28 b)) 100000000) (fun _ hb => Go.AE.runHead_sound env2 (Go.AE.castK_sound (Go.AE.shrinkK_sound hb)) 100000000) (fun b => loopE3x6 b n) hg⟩
    · exact ⟨go3x7, rfl, fun n hg => Go.AE.goodAt_via (X := fun b => Go.AE.runHead cfg2 3 2 (Go.AE.castK cfg2 27 (Go.AE.shrinkK cfg2 [24, 26, 27] [0, 9, 24, 46, 71] 28 b)) 100000000) (fun _ hb => Go.AE.runHead_sound env2 (Go.AE.castK_sound (Go.AE.shrinkK_sound hb)) 100000000) (fun b => loopE3x7 b n) hg⟩
    · exact ⟨go3x8, rfl, fun n hg => Go.AE.goodAt_via (X := fun b => Go.AE.runHead cfg2 3 2 (Go.AE.castK cfg2 27 (Go.AE.shrinkK cfg2 [24, 26, 27] [0, 9, 24, 46, 71] 28 b)) 100000000) (fun _ hb => Go.AE.runHead_sound env2 (Go.AE.castK_sound (Go.AE.shrinkK_sound hb)) 100000000) (fun b => loopE3x8 b n) hg⟩
  have l3 := fun (cs1 : List Frame) => Go.AE.goodAt_loop env2 (v := .bool true) rfl (g4 cs1) rfl (e3 cs1) (z4 cs1) loopS3
  have i3 := fun (cs1 : List Frame) => Go.AE.goodAt_into env2 (v := .bool true) rfl (g4 cs1) rfl (e3 cs1) (l3 cs1) loopI3
  have g3 := fun (cs1 : List Frame) (n : Nat) => Go.AE.goodAt_via (X := fun b => Go.AE.runAt cfg2 3 28 1 (Go.AE.castK cfg2 27 (Go.AE.shrinkK cfg2 [24, 26, 27] [0, 9, 24, 46, 71] 28 b)) 100000000) (fun _ hb => Go.AE.runAt_sound env2 (Go.AE.castK_sound (Go.AE.shrinkK_sound hb)) 100000000) (fun b => part3 b n) (i3 cs1)
  have z3 := fun (cs1 : List Frame) => Go.AE.goodAt_via (X := fun b => Go.AE.runAt cfg2 3 28 1 (Go.AE.castK cfg2 27 (Go.AE.shrinkK cfg2 [24, 26, 27] [0, 9, 24, 46, 71] 28 b)) 100000000) (fun _ hb => Go.AE.runAt_sound env2 (Go.AE.castK_sound (Go.AE.shrinkK_sound hb)) 100000000) (fun b => part3Z b) (i3 cs1)
  have e2 : ∀ (cs1 : List Frame), ∀ u ∈ ents2, ∃ it', Go.AE.fillItem it2 u.1 = some it' ∧ ∀ n, Go.AE.GoodAt cfg2 w 3 cs1 .run todoH2 fx2 tr2 (obW2 n none) 26 (.bool true) → Go.AE.GoodAt cfg2 w 3 cs1 .run (it' :: k2) fx2 tr2 (obW2 n (some u.2)) 26 (.bool true) := by
    intro cs1 u hu
    unfold ents2 at hu
    simp only [List.mem_cons, List.not_mem_nil, or_false] at hu
    rcases hu with rfl | rfl | rfl | rfl | rfl | rfl | rfl | rfl | rfl | rfl | rfl | rfl | rfl | rfl
    · exact ⟨go2x0, rfl, fun n hg => Go.AE.goodAt_via (X := fun b => Go.AE.runHead cfg2 3 2 (Go.AE.castK cfg2 25 (Go.AE.shrinkK cfg2 [22, 24, 25] [0, 24, 44] 26 b)) 100000000) (fun _ hb => Go.AE.runHead_sound env2 (Go.AE.castK_sound (Go.AE.shrinkK_sound hb)) 100000000) (fun b => loopE2x0 b n) hg⟩
    · exact ⟨go2x1, rfl, fun n hg => Go.AE.goodAt_via (X := fun b => Go.AE.runHead cfg2 3 2 (Go.AE.castK cfg2 25 (Go.AE.shrinkK cfg2 [22, 24, 25] [0, 24, 44] 26 b)) 100000000) (fun _ hb => Go.AE.runHead_sound env2 (Go.AE.castK_sound (Go.AE.shrinkK_sound hb)) 100000000) (fun b => loopE2x1 b n) hg⟩
    · exact ⟨go2x2, rfl, fun n hg => Go.AE.goodAt_via (X := fun b => Go.AE.runHead cfg2 3 2 (Go.AE.castK cfg2 25 (Go.AE.shrinkK cfg2 [22, 24, 25] [0, 24, 44] 26 b)) 100000000) (fun _ hb => Go.AE.runHead_sound env2 (Go.AE.castK_sound (Go.AE.shrinkK_sound hb)) 100000000) (fun b => loopE2x2 b n) hg⟩
    · exact ⟨go2x3, rfl, fun n hg => Go.AE.goodAt_via (X := fun b => Go.AE.runHead cfg2 3 2 (Go.AE.castK cfg2 25 (Go.AE.shrinkK cfg2 [22, 24, 25] [0, 24, 44] 26 b)) 100000000) (fun _ hb => Go.AE.runHead_sound env2 (Go.AE.castK_sound (Go.AE.shrinkK_sound hb)) 100000000) (fun b => loopE2x3 b n) hg⟩
    · exact ⟨go2x4, rfl, fun n hg => Go.AE.goodAt_via (X := fun b => Go.AE.runHead cfg2 3 2 (Go.AE.castK cfg2 25 (Go.AE.shrinkK cfg2 [22, 24, 25] [0, 24, 44] 26 b)) 100000000) (fun _ hb => Go.AE.runHead_sound env2 (Go.AE.castK_sound (Go.AE.shrinkK_sound hb)) 100000000) (fun b => loopE2x4 b n) hg⟩
    · exact ⟨go2x5, rfl, fun n hg => Go.AE.goodAt_via (X := fun b => Go.AE.runHead cfg2 3 2 (Go.AE.castK cfg2 25 (Go.AE.shrinkK cfg2 [22, 24, 25] [0, 24, 44] 26 b)) 100000000) (fun _ hb => Go.AE.runHead_sound env2 (Go.AE.castK_sound (Go.AE.shrinkK_sound hb)) 100000000) (fun b => loopE2x5 b n) hg⟩
    · exact ⟨go2x6, rfl, fun n hg => Go.AE.goodAt_via (X := fun b => Go.AE.runHead cfg2 3 2 (Go.AE.castK cfg2 25 (Go.AE.shrinkK cfg2 [22, 24, 25] [0, 24, 44] 26 b)) 100000000) (fun _ hb => Go.AE.runHead_sound env2 (Go.AE.castK_sound (Go.AE.shrinkK_sound hb)) 100000000) (fun b => loopE2x6 b n) hg⟩
    · exact ⟨go2x7, rfl, fun n hg => Go.AE.goodAt_via (X := fun b => Go.AE.runHead cfg2 3 2 (Go.AE.castK cfg2 25 (Go.AE.shrinkK cfg2 [22, 24, 25] [0, 24, 44] 26 b)) 100000000) (fun _ hb => Go.AE.runHead_sound env2 (Go.AE.castK_sound (Go.AE.shrinkK_sound hb)) 100000000) (fun b => loopE2x7 b n) hg⟩
    · exact ⟨go2x8, rfl, fun n hg => Go.AE.goodAt_via (X := fun b => Go.AE.runHead cfg2 3 2 (Go.AE.castK cfg2 25 (Go.AE.shrinkK cfg2 [22, 24, 25] [0, 24, 44] 26 b)) 100000000) (fun _ hb => Go.AE.runHead_sound env2 (Go.AE.castK_sound (Go.AE.shrinkK_sound hb)) 100000000) (fun b => loopE2x8 b n) hg⟩
    · exact ⟨go2x9, rfl, fun n hg => Go.AE.goodAt_via (X := fun b => Go.AE.runHead cfg2 3 2 (Go.AE.castK cfg2 25 (Go.AE.shrinkK cfg2 [22, 24, 25] [0, 24, 44] 26 b)) 100000000) (fun _ hb => Go.AE.runHead_sound env2 (Go.AE.castK_sound (Go.AE.shrinkK_sound hb)) 100000000) (fun b => loopE2x9 b n) hg⟩
    · exact ⟨go2x10, rfl, fun n hg => Go.AE.goodAt_via (X := fun b => Go.AE.runHead cfg2 3 2 (Go.AE.castK cfg2 25 (Go.AE.shrinkK cfg2 [22, 24, 25] [0, 24, 44] 26 b)) 100000000) (fun _ hb => Go.AE.runHead_sound env2 (Go.AE.castK_sound (Go.AE.shrinkK_sound hb)) 100000000) (fun b => loopE2x10 b n) hg⟩
    · exact ⟨go2x11, rfl, fun n hg => Go.AE.goodAt_via (X := fun b => Go.AE.runHead cfg2 3 2 (Go.AE.castK cfg2 25 (Go.AE.shrinkK cfg2 [22, 24, 25] [0, 24, 44] 26 b)) 100000000) (fun _ hb => Go.AE.runHead_sound env2 (Go.AE.castK_sound (Go.AE.shrinkK_sound hb)) 100000000) (fun b => loopE2x11 b n) hg⟩
    · exact ⟨go2x12, rfl, fun n hg => Go.AE.goodAt_via (X := fun b => Go.AE.runHead cfg2 3 2 (Go.AE.castK cfg2 25 (Go.AE.shrinkK cfg2 [22, 24, 25] [0, 24, 44] 26 b)) 100000000) (fun _ hb => Go.AE.runHead_sound env2 (Go.AE.castK_sound (Go.AE.shrinkK_sound hb)) 100000000) (fun b => loopE2x12 b n) hg⟩
    · exact ⟨go2x13, rfl, fun n hg => Go.AE.goodAt_via (X := fun b => Go.AE.runHead cfg2 3 2 (Go.AE.castK cfg2 25 (Go.AE.shrinkK cfg2 [22, 24, 25] [0, 24, 44] 26 b)) 100000000) (fun _ hb => Go.AE.runHead_sound env2 (Go.AE.castK_sound (Go.AE.shrinkK_sound hb)) 100000000) (fun b => loopE2x13 b n) hg⟩
  have l2 := fun (cs1 : List Frame) => Go.AE.goodAt_loop env2 (v := .bool true) rfl (g3 cs1) rfl (e2 cs1) (z3 cs1) loopS2
  have i2 := fun (cs1 : List Frame) => Go.AE.goodAt_into env2 (v := .bool true) rfl (g3 cs1) rfl (e2 cs1) (l2 cs1) loopI2
  have g2 := fun (cs1 : List Frame) (n : Nat) => Go.AE.goodAt_via (X := fun b => Go.AE.runAt cfg2 3 26 1 (Go.AE.castK cfg2 25 (Go.AE.shrinkK cfg2 [22, 24, 25] [0, 24, 44] 26 b)) 100000000) (fun _ hb => Go.AE.runAt_sound env2 (Go.AE.castK_sound (Go.AE.shrinkK_sound hb)) 100000000) (fun b => part2 b n) (i2 cs1)
  have z2 := fun (cs1 : List Frame) => Go.AE.goodAt_via (X := fun b => Go.AE.runAt cfg2 3 26 1 (Go.AE.castK cfg2 25 (Go.AE.shrinkK cfg2 [22, 24, 25] [0, 24, 44] 26 b)) 100000000) (fun _ hb => Go.AE.runAt_sound env2 (Go.AE.castK_sound (Go.AE.shrinkK_sound hb)) 100000000) (fun b => part2Z b) (i2 cs1)
  have e1 : ∀ (cs1 : List Frame), ∀ u ∈ ents1, ∃ it', Go.AE.fillItem it1 u.1 = some it' ∧ ∀ n, Go.AE.GoodAt cfg2 w 3 cs1 .run todoH1 fx1 tr1 (obW1 n none) 24 (.bool true) → Go.AE.GoodAt cfg2 w 3 cs1 .run (it' :: k1) fx1 tr1 (obW1 n (some u.2)) 24 (.bool true) := by
    intro cs1 u hu
    unfold ents1 at hu
    simp only [List.mem_cons, List.not_mem_nil, or_false] at hu
    rcases hu with rfl | rfl | rfl | rfl | rfl | rfl | rfl | rfl | rfl | rfl | rfl | rfl | rfl | rfl | rfl | rfl | rfl | rfl
    · exact ⟨go1x0, rfl, fun n hg => Go.AE.goodAt_via (X := fun b => Go.AE.runHead cfg2 3 2 (Go.AE.castK cfg2 23 (Go.AE.shrinkK cfg2 [22, 23] [0, 22] 24 b)) 100000000) (fun _ hb => Go.AE.runHead_sound env2 (Go.AE.castK_sound (Go.AE.shrinkK_sound hb)) 100000000) (fun b => loopE1x0 b n) hg⟩
    · exact ⟨go1x1, rfl, fun n hg => Go.AE.goodAt_via (X := fun b => Go.AE.runHead cfg2 3 2 (Go.AE.castK cfg2 23 (Go.AE.shrinkK cfg2 [22, 23] [0, 22] 24 b)) 100000000) (fun _ hb => Go.AE.runHead_sound env2 (Go.AE.castK_sound (Go.AE.shrinkK_sound hb)) 100000000) (fun b => loopE1x1 b n) hg⟩
    · exact ⟨go1x2, rfl, fun n hg => Go.AE.goodAt_via (X := fun b => Go.AE.runHead cfg2 3 2 (Go.AE.castK cfg2 23 (Go.AE.shrinkK cfg2 [22, 23] [0, 22] 24 b)) 100000000) (fun _ hb => Go.AE.runHead_sound env2 (Go.AE.castK_sound (Go.AE.shrinkK_sound hb)) 100000000) (fun b => loopE1x2 b n) hg⟩
    · exact ⟨go1x3, rfl, fun n hg => Go.AE.goodAt_via (X := fun b => Go.AE.runHead cfg2 3 2 (Go.AE.castK cfg2 23 (Go.AE.shrinkK cfg2 [22, 23] [0, 22] 24 b)) 100000000) (fun _ hb => Go.AE.runHead_sound env2 (Go.AE.castK_sound (Go.AE.shrinkK_sound hb)) 100000000) (fun b => loopE1x3 b n) hg⟩
    · exact ⟨go1x4, rfl, fun n hg => Go.AE.goodAt_via (X := fun b => Go.AE.runHead cfg2 3 2 (Go.AE.castK cfg2 23 (Go.AE.shrinkK cfg2 [22, 23] [0, 22] 24 b)) 100000000) (fun _ hb => Go.AE.runHead_sound env2 (Go.AE.castK_sound (Go.AE.shrinkK_sound hb)) 100000000) (fun b => loopE1x4 b n) hg⟩
    · exact ⟨go1x5, rfl, fun n hg => Go.AE.goodAt_via (X := fun b => Go.AE.runHead cfg2 3 2 (Go.AE.castK cfg2 23 (Go.AE.shrinkK cfg2 [22, 23] [0, 22] 24 b)) 100000000) (fun _ hb => Go.AE.runHead_sound env2 (Go.AE.castK_sound (Go.AE.shrinkK_sound hb)) 100000000) (fun b => loopE1x5 b n) hg⟩
    · exact ⟨go1x6, rfl, fun n hg => Go.AE.goodAt_via (X := fun b => Go.AE.runHead cfg2 3 2 (Go.AE.castK cfg2 23 (Go.AE.shrinkK cfg2 [22, 23] [0, 22] 24 b)) 100000000) (fun _ hb => Go.AE.runHead_sound env2 (Go.AE.castK_sound (Go.AE.shrinkK_sound hb)) 100000000) (fun b => loopE1x6 b n) hg⟩
    · exact ⟨go1x7, rfl, fun n hg => Go.AE.goodAt_via (X := fun b => Go.AE.runHead cfg2 3 2 (Go.AE.castK cfg2 23 (Go.AE.shrinkK cfg2 [22, 23] [0, 22] 24 b)) 100000000) (fun _ hb => Go.AE.runHead_sound env2 (Go.AE.castK_sound (Go.AE.shrinkK_sound hb)) 100000000) (fun b => loopE1x7 b n) hg⟩
    · exact ⟨go1x8, rfl, fun n hg => Go.AE.goodAt_via (X := fun b => Go.AE.runHead cfg2 3 2 (Go.AE.castK cfg2 23 (Go.AE.shrinkK cfg2 [22, 23] [0, 22] 24 b)) 100000000) (fun _ hb => Go.AE.runHead_sound env2 (Go.AE.castK_sound (Go.AE.shrinkK_sound hb)) 100000000) (fun b => loopE1x8 b n) hg⟩
    · exact ⟨go1x9, rfl, fun n hg => Go.AE.goodAt_via (X := fun b => Go.AE.runHead cfg2 3 2 (Go.AE.castK cfg2 23 (Go.AE.shrinkK cfg2 [22, 23] [0, 22] 24 b)) 100000000) (fun _ hb => Go.AE.runHead_sound env2 (Go.AE.castK_sound (Go.AE.shrinkK_sound hb)) 100000000) (fun b => loopE1x9 b n) hg⟩
    · exact ⟨go1x10, rfl, fun n hg => Go.AE.goodAt_via (X := fun b => Go.AE.runHead cfg2 3 2 (Go.AE.castK cfg2 23 (Go.AE.shrinkK cfg2 [22, 23] [0, 22] 24 b)) 100000000) (fun _ hb => Go.AE.runHead_sound env2 (Go.AE.castK_sound (Go.AE.shrinkK_sound hb)) 100000000) (fun b => loopE1x10 b n) hg⟩
    · exact ⟨go1x11, rfl, fun n hg => Go.AE.goodAt_via (X := fun b => Go.AE.runHead cfg2 3 2 (Go.AE.castK cfg2 23 (Go.AE.shrinkK cfg2 [22, 23] [0, 22] 24 b)) 100000000) (fun _ hb => Go.AE.runHead_sound env2 (Go.AE.castK_sound (Go.AE.shrinkK_sound hb)) 100000000) (fun b => loopE1x11 b n) hg⟩
    · exact ⟨go1x12, rfl, fun n hg => Go.AE.goodAt_via (X := fun b => Go.AE.runHead cfg2 3 2 (Go.AE.castK cfg2 23 (Go.AE.shrinkK cfg2 [22, 23] [0, 22] 24 b)) 100000000) (fun _ hb => Go.AE.runHead_sound env2 (Go.AE.castK_sound (Go.AE.shrinkK_sound hb)) 100000000) (fun b => loopE1x12 b n) hg⟩
    · exact ⟨go1x13, rfl, fun n hg => Go.AE.goodAt_via (X := fun b => Go.AE.runHead cfg2 3 2 (Go.AE.castK cfg2 23 (Go.AE.shrinkK cfg2 [22, 23] [0, 22] 24 b)) 100000000) (fun _ hb => Go.AE.runHead_sound env2 (Go.AE.castK_sound (Go.AE.shrinkK_sound hb)) 100000000) (fun b => loopE1x13 b n) hg⟩
    · exact ⟨go1x14, rfl, fun n hg => Go.AE.goodAt_via (X := fun b => Go.AE.runHead cfg2 3 2 (Go.AE.castK cfg2 23 (Go.AE.shrinkK cfg2 [22, 23] [0, 22] 24 b)) 100000000) (fun _ hb => Go.AE.runHead_sound env2 (Go.AE.castK_sound (Go.AE.shrinkK_sound hb)) 100000000) (fun b => loopE1x14 b n) hg⟩
    · exact ⟨go1x15, rfl, fun n hg => Go.AE.goodAt_via (X := fun b => Go.AE.runHead cfg2 3 2 (Go.AE.castK cfg2 23 (Go.AE.shrinkK cfg2 [22, 23] [0, 22] 24 b)) 100000000) (fun _ hb => Go.AE.runHead_sound env2 (Go.AE.castK_sound (Go.AE.shrinkK_sound hb)) 100000000) (fun b => loopE1x15 b n) hg⟩
    · exact ⟨go1x16, rfl, fun n hg => Go.AE.goodAt_via (X := fun b => Go.AE.runHead cfg2 3 2 (Go.AE.castK cfg2 23 (Go.AE.shrinkK cfg2 [22, 23] [0, 22] 24 b)) 100000000) (fun _ hb => Go.AE.runHead_sound env2 (Go.AE.castK_sound (Go.AE.shrinkK_sound hb)) 100000000) (fun b => loopE1x16 b n) hg⟩
    · exact ⟨go1x17, rfl, fun n hg => Go.AE.goodAt_via (X := fun b => Go.AE.runHead cfg2 3 2 (Go.AE.castK cfg2 23 (Go.AE.shrinkK cfg2 [22, 23] [0, 22] 24 b)) 100000000) (fun _ hb => Go.AE.runHead_sound env2 (Go.AE.castK_sound (Go.AE.shrinkK_sound hb)) 100000000) (fun b => loopE1x17 b n) hg⟩
  have l1 := fun (cs1 : List Frame) => Go.AE.goodAt_loop env2 (v := .bool true) rfl (g2 cs1) rfl (e1 cs1) (z2 cs1) loopS1
  have i1 := fun (cs1 : List Frame) => Go.AE.goodAt_into env2 (v := .bool true) rfl (g2 cs1) rfl (e1 cs1) (l1 cs1) loopI1
  have h := Go.AE.viaCall_sound (C := cfg2) env2 (X := fun b => Go.AE.runAt cfg2 3 24 1 (Go.AE.castK cfg2 23 (Go.AE.shrinkK cfg2 [22, 23] [0, 22] 24 b)) 100000000) (fun _ _ hb => Go.AE.runAt_sound env2 (Go.AE.castK_sound (Go.AE.shrinkK_sound hb)) 100000000) (args := []) trivial part1 (fun cs1 => (i1 cs1))
  refine h.mono fun e w' ⟨⟨φ, he⟩, hb⟩ => ⟨?_, hb⟩
  rw [he]
  rfl

/-- The door's own heap meets the condition. -/
theorem door_met (os : Os) (args : Array Value) : laidMetH Tryz.prog Rows.typesKnownRow.laid ((World.doorLaid Tryz.prog 271 os).forCall (fun _ _ => 0) ⟨#[], args, []⟩).memory :=
  laidMetH_of_parts3 (fuel := 8) (laidMet_of_run' 8 (by kernel_rfl) (by kernel_rfl)) (by kernel_rfl) (by kernel_rfl)

set_option maxRecDepth 100000 in
theorem lifted (os : Os) (started : os.Started) (H : Type) (enc : TypeId × Value → H) :
    ReturnsInHanded {} Tryz.checked os 3 .any (fun w args => (Rows.typesKnownSpec.pre enc Tryz.prog Tryz.f3 [] false w args ∧ laidMetH Tryz.prog Rows.typesKnownRow.laid w) ∧ sizedMet enc Tryz.prog Tryz.f3 (OpenSpec.ofChange Rows.typesKnownSpec) false w args)
      (Rows.typesKnownSpec.post enc Tryz.prog Tryz.f3 false true false false) := by
  refine returnsInHanded_of_change_and (C := Tryz.checked) (X := fun w _ => laidMetH Tryz.prog Rows.typesKnownRow.laid w) (fun _ _ _ hh h => h.of_heap hh) Tryz.own started (by kernel_rfl) Tryz.func3
    (ChangeSpec.witness_shaped (enc := enc) (C := Tryz.checked) (os := os) (X := fun w _ => laidMetH Tryz.prog Rows.typesKnownRow.laid w) false (World.doorLaid Tryz.prog 271 os) #[] 8 rfl (World.shaped_of_RefB (by kernel_rfl) (by kernel_rfl)) (by kernel_rfl) (by kernel_rfl) (by kernel_rfl) (door_met os _)) ?_
  intro W base args ds gs before hval0 hW _ _ hL _
  have hW' := hW
  obtain ⟨p, q, hA0, hV, rfl, hfz, hnd⟩ := hW
  have hA : DataW.TrodAll enc Tryz.prog W 0 (fun _ => true) true Tryz.f3.params.toList args.toList ds p := hA0
  rw [Tryz.params3] at hA
  obtain ⟨rfl, rfl, rfl⟩ := trodAll_none hA
  obtain ⟨rfl, rfl⟩ := trodVars_none hV
  have hM : laidMet Tryz.prog Rows.typesKnownRow.laid W := by
    rw [← MakeChecks.laidMetH_plain _ _ _ (by kernel_rfl)]
    exact hL
  refine (known_any W hM).mono fun e W' ⟨he, hb⟩ => ?_
  subst he
  exact ⟨_, rfl, [], [], _, [], [], [], hW', trodAll_mk1 (shut_bool (by kernel_rfl) true), trodAll_mk0, rfl, Below.frame hb _, fun h => by cases h⟩

theorem law_holds : Rows.TypesKnownSaid :=
  OpenClaim.holds_of_wide 3 Tryz.f3 rfl rfl rfl rfl rfl rfl rfl ⟨rfl, rfl, rfl, rfl, rfl⟩ rfl rfl rfl rfl rfl (by kernel_rfl) Tryz.func3 (by kernel_rfl)
    (of_decide_eq_true (by kernel_rfl)) (by unfold Func.isWrapper; first | (rw [if_pos (by decide +kernel)]; kernel_rfl) | (rw [if_neg (by decide +kernel)]; exact ⟨rfl, rfl⟩))
    (fun os started H enc _ => lifted os started H enc)

theorem card_holds : Rows.TypesKnownCardSaid :=
  Claim7.holds_tied_plain_at .later [] Rows.typesKnownCard.laidKinds true Rows.typesKnownCard.stood.harness Rows.typesKnownCard.stood.looks
    law_holds (fun _ h => by cases h) (by kernel_rfl) (fun _ h => by cases h) typesKnown_row_tie rfl ⟨rfl, rfl⟩ (by kernel_rfl) rfl
    (fun f fn hf hfn => by
      obtain rfl : f = 3 := Option.some.inj ((show Tryz.prog.funcNamed Rows.typesKnownRow.func = some 3 by kernel_rfl).symm.trans hf) |>.symm
      obtain rfl : fn = Tryz.f3 := (Option.some.inj (Tryz.func3.symm.trans hfn)).symm
      exact ⟨by kernel_rfl, fun j t ht => by
        rw [Tryz.params3] at ht
        simp at ht⟩)
    (by kernel_rfl)

end Go.Proofs.YtfaiekpkahconaaGreatDoor
