/- Parts of the play of the law TypesKnown, each checked by the kernel; no condition. -/
import Derived.Test.YtfaiekpkahconaaGreatDoorPartE
namespace Go.Proofs.YtfaiekpkahconaaGreatDoor
open Go.ChangeShapes Go.WideShapes Go.ChangeAt Go.RowKit

theorem partEnd : Go.AE.run cfg2 100000000 .run todo4 fx4 tr4 ob4 17788 = some (.bool true) := by kernel_rfl

end Go.Proofs.YtfaiekpkahconaaGreatDoor
