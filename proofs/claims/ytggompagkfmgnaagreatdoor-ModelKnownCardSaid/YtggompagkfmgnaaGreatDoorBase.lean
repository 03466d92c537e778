/- The start of the evaluator for the law ModelKnown: the program facts and the listed variables; no condition. -/
import Derived.Test.YtggompagkfmgnaaGreatDoorTie
import Derived.Test.YtggompagkfmgnaaGreatDoorCards
import Derived.Test.YtggompagkfmgnaaGreatDoorEvD
import Derived.Test.YtggompagkfmgnaaGreatDoorClone
import Derived.ProofKit
import Derived.LaidMore
import Derived.OpenShut
import Derived.Stop.Joined
import Derived.SevenTiedAt
namespace Go.Proofs.YtggompagkfmgnaaGreatDoor
open Go.ChangeShapes Go.WideShapes Go.ChangeAt Go.RowKit

theorem Tryz.own : ownKnob Tryz.prog.godebug = none := by kernel_rfl
theorem names_ok : (Tryz.prog.funcs.toList.all fun fn => !fn.body.isSome || !(fn.name == "runtime.NumGoroutine")) = true := by kernel_rfl
theorem mixed_ok : Tryz.prog.follows .mixedOrders = true := by kernel_rfl
theorem pf : Go.AE.PF Tryz.prog := by
  refine ⟨mixed_ok, fun f fn hf hb => ?_⟩
  have hm : fn ∈ Tryz.prog.funcs.toList := Array.mem_toList_iff.2 (Array.mem_of_getElem? hf)
  have h := List.all_eq_true.1 names_ok fn hm
  rw [hb] at h
  simpa using h
noncomputable def nm : List (String × Nat) := [((Tryz.prog.typeName? 3 304).getD "", 304)]
theorem nm_one : Go.AE.NamesOne Tryz.prog nm := by
  intro x hx u hu
  have hx : x = ((Tryz.prog.typeName? 3 304).getD "", 304) := by simpa [nm] using hx
  subst hx
  exact typeName_ptr_named (nm := "errors.errorString") (by kernel_rfl) (by kernel_rfl) (by decide) u (hu.trans (by kernel_rfl))
noncomputable def lv : Nat × List (Nat × Go.AE.AObj) := Go.AE.layVarsN Tryz.prog nm Rows.modelKnownRow.laid Tryz.prog.globals.size

end Go.Proofs.YtggompagkfmgnaaGreatDoor
