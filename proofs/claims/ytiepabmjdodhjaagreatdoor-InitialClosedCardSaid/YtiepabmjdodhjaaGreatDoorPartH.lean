/- Parts of the play of the law InitialClosed, each checked by the kernel; no condition. -/
import Derived.Test.YtiepabmjdodhjaaGreatDoorPartG
namespace Go.Proofs.YtiepabmjdodhjaaGreatDoor
open Go.ChangeShapes Go.WideShapes Go.ChangeAt Go.RowKit

noncomputable def tab2x14 : List (Nat × List Go.AE.AV × Go.AE.AV) := [
  (9, [.str [97, 32, 45, 62, 32, 112, 114, 101, 32, 40, 98, 32, 45, 62, 32, 112, 114, 101, 32, 120, 41]], .agg [.int .i64 (0), .int .i64 (0)])]
theorem plays2x14 : Go.AE.tabPlays cfg1 100000000 tab2x14 = true := by kernel_rfl
noncomputable def tab2x15 : List (Nat × List Go.AE.AV × Go.AE.AV) := [
  (9, [.str [97, 32, 45, 62, 32, 105, 102, 32, 99, 32, 116, 104, 101, 110, 32, 112, 114, 101, 32, 97, 32, 101, 108, 115, 101, 32, 98]], .agg [.int .i64 (0), .int .i64 (0)])]
theorem plays2x15 : Go.AE.tabPlays cfg1 100000000 tab2x15 = true := by kernel_rfl

end Go.Proofs.YtiepabmjdodhjaaGreatDoor
