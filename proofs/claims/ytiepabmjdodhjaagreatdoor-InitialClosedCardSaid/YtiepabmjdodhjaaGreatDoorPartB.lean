/- Parts of the play of the law InitialClosed, each checked by the kernel; no condition. -/
import Derived.Test.YtiepabmjdodhjaaGreatDoorPartA
namespace Go.Proofs.YtiepabmjdodhjaaGreatDoor
open Go.ChangeShapes Go.WideShapes Go.ChangeAt Go.RowKit

noncomputable def tab2x2 : List (Nat × List Go.AE.AV × Go.AE.AV) := [
  (9, [.str [97, 32, 43, 32, 112, 114, 101, 32, 120]], .agg [.int .i64 (28), .int .i64 (0)])]
theorem plays2x2 : Go.AE.tabPlays cfg1 100000000 tab2x2 = true := by kernel_rfl
noncomputable def tab2x3 : List (Nat × List Go.AE.AV × Go.AE.AV) := [
  (9, [.str [49, 117, 56, 32, 45, 62, 32, 112, 114, 101, 32, 120]], .agg [.int .i64 (0), .int .i64 (0)])]
theorem plays2x3 : Go.AE.tabPlays cfg1 100000000 tab2x3 = true := by kernel_rfl

end Go.Proofs.YtiepabmjdodhjaaGreatDoor
