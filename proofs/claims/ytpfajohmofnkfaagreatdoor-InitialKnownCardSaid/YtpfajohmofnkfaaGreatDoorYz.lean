/- A part of the proof of the claim's last text. -/
import Derived.Test.YtpfajohmofnkfaaGreatDoorYw
set_option maxHeartbeats 8000000
set_option linter.all false
namespace Go.Proofs.YtpfajohmofnkfaaGreatDoor
open Go.bg
noncomputable section
set_option maxRecDepth 100000 in
def avR:sD Ce 10000000 101 [.str kh]=some (.agg [.int .i64 28, .int .i64 7]):=Zk
set_option maxRecDepth 100000 in
def avT:sD Ce 10000000 101 [.str qE]=some (.agg [.int .i64 28, .int .i64 7]):=Zk
set_option maxRecDepth 100000 in
def avI:sD aj0 1000000 50 []=some (.bool true):=Zk
end
end Go.Proofs.YtpfajohmofnkfaaGreatDoor
