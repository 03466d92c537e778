/- Parts of the play of the law InitialClosed, each checked by the kernel; no condition. -/
import Derived.Test.YtiepabmjdodhjaaGreatDoorPartD
namespace Go.Proofs.YtiepabmjdodhjaaGreatDoor
open Go.ChangeShapes Go.WideShapes Go.ChangeAt Go.RowKit

noncomputable def tab2x8 : List (Nat × List Go.AE.AV × Go.AE.AV) := [
  (9, [.str [97, 32, 45, 62, 32, 103, 40, 112, 114, 101, 32, 98, 41]], .agg [.int .i64 (28), .int .i64 (7)])]
theorem plays2x8 : Go.AE.tabPlays cfg1 100000000 tab2x8 = true := by kernel_rfl
noncomputable def tab2x9 : List (Nat × List Go.AE.AV × Go.AE.AV) := [
  (9, [.str [103, 40, 97, 32, 45, 62, 32, 112, 114, 101, 32, 97, 41]], .agg [.int .i64 (0), .int .i64 (0)])]
theorem plays2x9 : Go.AE.tabPlays cfg1 100000000 tab2x9 = true := by kernel_rfl

end Go.Proofs.YtiepabmjdodhjaaGreatDoor
