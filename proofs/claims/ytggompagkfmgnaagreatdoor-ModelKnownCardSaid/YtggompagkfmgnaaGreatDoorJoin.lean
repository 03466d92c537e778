/- A part of the proof of the claim's last text: the facts on the joined row; no condition of its own. -/
import Derived.Test.YtggompagkfmgnaaGreatDoorTie
import Derived.Test.YtggompagkfmgnaaGreatDoorCards
import Derived.Test.YtggompagkfmgnaaGreatDoorEvD
import Derived.ProofKit
import Derived.LaidMore
import Derived.OpenShut
import Derived.Stop.Joined
import Derived.SevenTiedAt
namespace Go.Proofs.YtggompagkfmgnaaGreatDoor
open Go.ChangeShapes Go.WideShapes Go.ChangeAt Go.RowKit
set_option maxRecDepth 100000
set_option maxHeartbeats 8000000
theorem joined : joinedFacts Tryz.checked.prog 3 Tryz.f3 Rows.modelKnownSpec Rows.modelKnownRow = true := by
  unfold joinedFacts
  simp only [Bool.and_eq_true]
  repeat' apply And.intro
  all_goals (as_aux_lemma => kernel_rfl)
end Go.Proofs.YtggompagkfmgnaaGreatDoor
