/- Part of the proof of the last text; no conditions -/
import Derived.Test.YtmipngjbcdamjaaGreatDoorYp
set_option maxHeartbeats 8000000
set_option linter.all false
namespace Go.Proofs.YtmipngjbcdamjaaGreatDoor
open Go.Q
noncomputable section
def AA(s:List Nat):Bool:=match g5 oq 1000000 85 [.str s]with|some (.bool b)=>b==c4 s|_=>false
set_option maxRecDepth 100000 in
def JRa:(ek.take 12).all AA=true:=Zk
end
end Go.Proofs.YtmipngjbcdamjaaGreatDoor
