/- A part of the proof of the claim's last text. -/
import Derived.Test.YtpfajohmofnkfaaGreatDoorYw
set_option maxHeartbeats 8000000
set_option linter.all false
namespace Go.Proofs.YtpfajohmofnkfaaGreatDoor
open Go.bg
noncomputable section
set_option maxRecDepth 100000 in
def avS:sD Ce 10000000 101 [.str pQ]=some (.agg [.int .i64 28, .int .i64 24]):=Zk
end
end Go.Proofs.YtpfajohmofnkfaaGreatDoor
