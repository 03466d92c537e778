/- Parts of the play of the law InitialClosed, each checked by the kernel; no condition. -/
import Derived.Test.YtiepabmjdodhjaaGreatDoorPartF
namespace Go.Proofs.YtiepabmjdodhjaaGreatDoor
open Go.ChangeShapes Go.WideShapes Go.ChangeAt Go.RowKit

noncomputable def tab2x12 : List (Nat × List Go.AE.AV × Go.AE.AV) := [
  (9, [.str [51, 117, 56, 32, 102, 98, 121, 32, 40, 97, 32, 45, 62, 32, 112, 114, 101, 32, 97, 41]], .agg [.int .i64 (0), .int .i64 (0)])]
theorem plays2x12 : Go.AE.tabPlays cfg1 100000000 tab2x12 = true := by kernel_rfl
noncomputable def tab2x13 : List (Nat × List Go.AE.AV × Go.AE.AV) := [
  (9, [.str [97, 32, 45, 62, 32, 112, 114, 101, 32, 40, 51, 117, 56, 32, 102, 98, 121, 32, 98, 41]], .agg [.int .i64 (0), .int .i64 (0)])]
theorem plays2x13 : Go.AE.tabPlays cfg1 100000000 tab2x13 = true := by kernel_rfl

end Go.Proofs.YtiepabmjdodhjaaGreatDoor
