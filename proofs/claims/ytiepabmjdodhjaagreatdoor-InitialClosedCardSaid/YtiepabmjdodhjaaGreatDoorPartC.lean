/- Parts of the play of the law InitialClosed, each checked by the kernel; no condition. -/
import Derived.Test.YtiepabmjdodhjaaGreatDoorPartB
namespace Go.Proofs.YtiepabmjdodhjaaGreatDoor
open Go.ChangeShapes Go.WideShapes Go.ChangeAt Go.RowKit

noncomputable def tab2x4 : List (Nat × List Go.AE.AV × Go.AE.AV) := [
  (9, [.str [97, 32, 45, 62, 32, 112, 114, 101, 32, 112, 114, 101, 32, 98]], .agg [.int .i64 (28), .int .i64 (7)])]
theorem plays2x4 : Go.AE.tabPlays cfg1 100000000 tab2x4 = true := by kernel_rfl
noncomputable def tab2x5 : List (Nat × List Go.AE.AV × Go.AE.AV) := [
  (9, [.str [40, 112, 114, 101, 32, 120, 41, 32, 45, 62, 32, 120]], .agg [.int .i64 (28), .int .i64 (0)])]
theorem plays2x5 : Go.AE.tabPlays cfg1 100000000 tab2x5 = true := by kernel_rfl

end Go.Proofs.YtiepabmjdodhjaaGreatDoor
