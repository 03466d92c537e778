/- Part of the proof of the last text; no conditions -/
import Derived.Test.YtmipngjbcdamjaaGreatDoorYi
set_option maxHeartbeats 8000000
set_option linter.all false
namespace Go.Proofs.YtmipngjbcdamjaaGreatDoor
open Go.S
noncomputable section
def sp(s:List Nat):Bool:=match gP ou 1000000 85 [.str s]with|some (.bool b)=>b==c7 s|_=>false
set_option maxRecDepth 100000 in
def JO:(d8.take 12).all sp=true:=Zk
end
end Go.Proofs.YtmipngjbcdamjaaGreatDoor

