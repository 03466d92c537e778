/- Part of the proof of the last text; no conditions -/
import Derived.Test.YtmipngjbcdamjaaGreatDoorYi
set_option maxHeartbeats 8000000
set_option linter.all false
namespace Go.Proofs.YtmipngjbcdamjaaGreatDoor
open Go.S
noncomputable section
set_option maxRecDepth 100000 in
def K9:gP nf 10000000 37 [.str [49,117,56,32,45,62,32,112,114,101,32,120]]=some (.agg [.int .i64 0, .int .i64 0]):=Zk
set_option maxRecDepth 100000 in
def La:gP nf 10000000 37 [.str [40,112,114,101,32,120,41,32,45,62,32,120]]=some (.agg [.int .i64 28, .int .i64 0]):=Zk
set_option maxRecDepth 100000 in
def Lb:gP nf 10000000 37 [.str [97,32,43,32,112,114,101,32,120]]=some (.agg [.int .i64 28, .int .i64 0]):=Zk
set_option maxRecDepth 100000 in
def Lc:gP nf 10000000 37 [.str [97,32,45,62,32,112,114,101,32,40,98,32,45,62,32,112,114,101,32,120,41]]=some (.agg [.int .i64 0, .int .i64 0]):=Zk
end
end Go.Proofs.YtmipngjbcdamjaaGreatDoor

