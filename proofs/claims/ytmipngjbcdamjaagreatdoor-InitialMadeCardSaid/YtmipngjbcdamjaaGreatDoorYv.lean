/- Part of the proof of the last text; no conditions -/
import Derived.Test.YtmipngjbcdamjaaGreatDoorYa
import Derived.Test.YtmipngjbcdamjaaGreatDoorRows
import Derived.LaidByTextLater
import Derived.SevenTiedAt
import Derived.LaidSub
import Derived.LaidOnce
set_option maxHeartbeats 8000000
set_option linter.all false
namespace Go.Proofs.YtmipngjbcdamjaaGreatDoor
set_option maxRecDepth 100000 in
def JY:Rows.initialMadeRow.laidByTextAt .later Tryz.pinned [.data, .data, .data, .sentinel, .sentinel, .widerDeep, .mapped, .mapped, .data, .data, .data] true:=
 OpenClaim.laidByTextAt_later rfl rfl (Program.laidByTextLater_by_one 271 8 65 Zk Zk Zk Zk Zk Zk (λ_ _=>by kernel_rfl)) Zk
end Go.Proofs.YtmipngjbcdamjaaGreatDoor

