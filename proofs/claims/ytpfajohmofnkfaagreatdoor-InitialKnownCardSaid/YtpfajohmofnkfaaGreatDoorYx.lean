/- A part of the proof of the claim's last text. -/
import Derived.Test.YtpfajohmofnkfaaGreatDoorYw
set_option maxHeartbeats 8000000
set_option linter.all false
namespace Go.Proofs.YtpfajohmofnkfaaGreatDoor
open Go.bg
noncomputable section
set_option maxRecDepth 100000 in
def avN:sD Ce 10000000 101 [.str kL]=some (.agg [.int .i64 0, .int .i64 0]):=Zk
set_option maxRecDepth 100000 in
def avO:sD Ce 10000000 101 [.str im]=some (.agg [.int .i64 28, .int .i64 0]):=Zk
set_option maxRecDepth 100000 in
def avP:sD Ce 10000000 101 [.str hk]=some (.agg [.int .i64 28, .int .i64 0]):=Zk
set_option maxRecDepth 100000 in
def avQ:sD Ce 10000000 101 [.str jr]=some (.agg [.int .i64 0, .int .i64 0]):=Zk
end
end Go.Proofs.YtpfajohmofnkfaaGreatDoor
