/- A part of the proof of the claim's last text. -/
import Derived.Test.YtpfajohmofnkfaaGreatDoorYr
set_option maxHeartbeats 8000000
set_option linter.all false
namespace Go.Proofs.YtpfajohmofnkfaaGreatDoor
open Go.bg
noncomputable section
def kn:Nat->List H->Option H:=xd 240 (xe 223)
def Ce:aW:=⟨Tryz.prog,fh,22,kn,Tryz.prog.globals.size⟩
def kL:List Nat:=[49,117,56,32,45,62,32,112,114,101,32,120]
def im:List Nat:=[40,112,114,101,32,120,41,32,45,62,32,120]
def hk:List Nat:=[97,32,43,32,112,114,101,32,120]
def jr:List Nat:=[97,32,45,62,32,112,114,101,32,40,98,32,45,62,32,112,114,101,32,120,41]
def kh:List Nat:=[97,32,45,62,32,112,114,101,32,112,114,101,32,98]
def pQ:List Nat:=[97,32,45,62,32,109,101,114,103,101,32,99,32,40,40,112,114,101,32,98,41,32,119,104,101,110,32,99,41,32,40,98,32,119,104,101,110,32,110,111,116,32,99,41]
def qE:List Nat:=[97,32,45,62,32,103,40,112,114,101,32,98,41]
def qN:List (Nat×List H×H):=[(101,[.str kL], .agg [.int .i64 0, .int .i64 0]),(101,[.str im], .agg [.int .i64 28, .int .i64 0]),(101,[.str hk], .agg [.int .i64 28, .int .i64 0]),(101,[.str jr], .agg [.int .i64 0, .int .i64 0]),(101,[.str kh], .agg [.int .i64 28, .int .i64 7]),(101,[.str pQ], .agg [.int .i64 28, .int .i64 24]),(101,[.str qE], .agg [.int .i64 28, .int .i64 7])]
def gH:Nat->List H->Option H:=Nr [101] kn qN
def aj0:aW:=⟨Tryz.prog,fh,22,gH,Tryz.prog.globals.size⟩
end
end Go.Proofs.YtpfajohmofnkfaaGreatDoor
