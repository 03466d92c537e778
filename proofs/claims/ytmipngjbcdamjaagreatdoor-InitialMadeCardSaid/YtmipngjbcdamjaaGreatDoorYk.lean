/- Part of the proof of the last text; no conditions -/
import Derived.Test.YtmipngjbcdamjaaGreatDoorYi
set_option maxHeartbeats 8000000
set_option linter.all false
namespace Go.Proofs.YtmipngjbcdamjaaGreatDoor
open Go.S
noncomputable section
set_option maxRecDepth 100000 in
def Ld:gP nf 10000000 37 [.str [97,32,45,62,32,112,114,101,32,112,114,101,32,98]]=some (.agg [.int .i64 28, .int .i64 7]):=Zk
set_option maxRecDepth 100000 in
def Le:gP nf 10000000 37 [.str [97,32,45,62,32,109,101,114,103,101,32,99,32,40,40,112,114,101,32,98,41,32,119,104,101,110,32,99,41,32,40,98,32,119,104,101,110,32,110,111,116,32,99,41]]=some (.agg [.int .i64 28, .int .i64 24]):=Zk
set_option maxRecDepth 100000 in
def Lf:gP nf 10000000 37 [.str [97,32,45,62,32,103,40,112,114,101,32,98,41]]=some (.agg [.int .i64 28, .int .i64 7]):=Zk
set_option maxRecDepth 100000 in
def K6:gP ou 1000000 14 []=some (.bool true):=Zk
end
end Go.Proofs.YtmipngjbcdamjaaGreatDoor

