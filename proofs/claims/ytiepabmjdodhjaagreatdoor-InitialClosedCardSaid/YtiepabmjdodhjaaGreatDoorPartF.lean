/- Parts of the play of the law InitialClosed, each checked by the kernel; no condition. -/
import Derived.Test.YtiepabmjdodhjaaGreatDoorPartE
namespace Go.Proofs.YtiepabmjdodhjaaGreatDoor
open Go.ChangeShapes Go.WideShapes Go.ChangeAt Go.RowKit

noncomputable def tab2x10 : List (Nat × List Go.AE.AV × Go.AE.AV) := [
  (9, [.str [97, 32, 43, 32, 40, 98, 32, 45, 62, 32, 112, 114, 101, 32, 98, 41]], .agg [.int .i64 (0), .int .i64 (0)])]
theorem plays2x10 : Go.AE.tabPlays cfg1 100000000 tab2x10 = true := by kernel_rfl
noncomputable def tab2x11 : List (Nat × List Go.AE.AV × Go.AE.AV) := [
  (9, [.str [105, 102, 32, 99, 32, 116, 104, 101, 110, 32, 112, 114, 101, 32, 97, 32, 101, 108, 115, 101, 32, 98]], .agg [.int .i64 (28), .int .i64 (0)])]
theorem plays2x11 : Go.AE.tabPlays cfg1 100000000 tab2x11 = true := by kernel_rfl

end Go.Proofs.YtiepabmjdodhjaaGreatDoor
