/- Parts of the play of the law InitialClosed, each checked by the kernel; no condition. -/
import Derived.Test.YtiepabmjdodhjaaGreatDoorPartC
namespace Go.Proofs.YtiepabmjdodhjaaGreatDoor
open Go.ChangeShapes Go.WideShapes Go.ChangeAt Go.RowKit

noncomputable def tab2x6 : List (Nat × List Go.AE.AV × Go.AE.AV) := [
  (9, [.str [97, 32, 45, 62, 32, 45, 112, 114, 101, 32, 98, 32, 60, 60, 32, 50]], .agg [.int .i64 (0), .int .i64 (0)])]
theorem plays2x6 : Go.AE.tabPlays cfg1 100000000 tab2x6 = true := by kernel_rfl
noncomputable def tab2x7 : List (Nat × List Go.AE.AV × Go.AE.AV) := [
  (9, [.str [97, 32, 45, 62, 32, 51, 117, 56, 32, 102, 98, 121, 32, 112, 114, 101, 32, 98]], .agg [.int .i64 (28), .int .i64 (11)])]
theorem plays2x7 : Go.AE.tabPlays cfg1 100000000 tab2x7 = true := by kernel_rfl

end Go.Proofs.YtiepabmjdodhjaaGreatDoor
