/- The law EnableKnown returns true in every start; no condition. -/
import Derived.Test.YtkmmngiodbbjcaaRows
import Derived.Test.YtkmmngiodbbjcaaEvC
import Derived.ProofKit
namespace Go.Proofs.Ytkmmngiodbbjcaa
open Go.ChangeShapes Go.WideShapes Go.ChangeAt Go.RowKit

theorem Try.own : ownKnob Try.prog.godebug = none := by kernel_rfl
theorem names_ok : (Try.prog.funcs.toList.all fun fn => !fn.body.isSome || !(fn.name == "runtime.NumGoroutine")) = true := by kernel_rfl
theorem mixed_ok : Try.prog.follows .mixedOrders = true := by kernel_rfl
theorem pf : Go.AE.PF Try.prog := by
  refine ⟨mixed_ok, fun f fn hf hb => ?_⟩
  have hm : fn ∈ Try.prog.funcs.toList := Array.mem_toList_iff.2 (Array.mem_of_getElem? hf)
  have h := List.all_eq_true.1 names_ok fn hm
  rw [hb] at h
  simpa using h
theorem played : Go.AE.runCall ⟨Try.prog, .nil, 0, fun _ _ => none, 0⟩ 100000 4 [] = some (.bool true) := by kernel_rfl
theorem known_any (w : World) : Calls Try.prog 4 #[] w fun e w' => e = .returned (.bool true) ∧ Below w.heap.size w w' := by
  have h := Go.AE.runCall_sound (Go.AE.Env.plain pf w) (f := 4) (args := []) trivial played
  refine h.mono fun e w' ⟨⟨φ, he⟩, hb⟩ => ⟨?_, hb⟩
  rw [he]
  rfl

set_option maxRecDepth 100000 in
theorem enable_lifted (os : Os) (started : os.Started) (H : Type) (enc : TypeId × Value → H) :
    ReturnsInHanded {} Try.checked os 4 .any (Rows.enableKnownSpec.pre6 enc Try.prog Try.f4 Rows.enableKnownRow.domain false) (Rows.enableKnownSpec.post enc Try.prog Try.f4 false true false false) := by
  refine returnsInHanded_of_change (C := Try.checked) Try.own started (by kernel_rfl) Try.func4
    (ChangeSpec.witness6 (enc := enc) (C := Try.checked) false ⟨#[], #[], []⟩ 8 (by kernel_rfl) (by kernel_rfl) (by kernel_rfl) (by kernel_rfl)) ?_
  intro W base args ds gs before hval0 hW hcnd _
  have hW' := hW
  obtain ⟨p, q, hA0, hV, rfl, hfz, hnd⟩ := hW
  have hA : DataW.TrodAll enc Try.prog W 0 (fun _ => true) true Try.f4.params.toList args.toList ds p := hA0
  rw [Try.params4] at hA
  obtain ⟨rfl, rfl, rfl⟩ := trodAll_none hA
  obtain ⟨rfl, rfl⟩ := trodVars_none hV
  refine (known_any W).mono fun e W' ⟨he, hb⟩ => ?_
  subst he
  exact ⟨_, rfl, [], [], _, [], [], [], hW', trodAll_mk1 (shut_bool (by kernel_rfl) true), trodAll_mk0, rfl, Below.frame hb _, fun h => by cases h⟩

theorem enable_holds : Rows.EnableKnownSaid :=
  OpenClaim.holds_of_wide 4 Try.f4 rfl rfl rfl rfl rfl rfl rfl ⟨rfl, rfl, rfl, rfl, rfl⟩ rfl rfl rfl rfl rfl (by kernel_rfl) Try.func4 (by kernel_rfl)
    (of_decide_eq_true (by kernel_rfl)) (by unfold Func.isWrapper; first | (rw [if_pos (by decide +kernel)]; kernel_rfl) | (rw [if_neg (by decide +kernel)]; exact ⟨rfl, rfl⟩))
    (fun os started H enc _ => enable_lifted os started H enc)

end Go.Proofs.Ytkmmngiodbbjcaa
