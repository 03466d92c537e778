/- A part of the last text's proof; no condition of its own -/
import Derived.Test.YtpfajohmofnkfaaGreatDoorYr
import Derived.Shelf.LaysM
import Derived.Shelf.Strconv.Clone
set_option maxHeartbeats 8000000
set_option linter.all false
namespace Go.Proofs.YtpfajohmofnkfaaGreatDoor
open Go.bk
noncomputable section
def iN:Nat->List J->Option J:=xF 240 (xG 223)
def E7:a2:=⟨Tryz.prog,fy,22,iN,Tryz.prog.globals.size⟩
def afH:List Nat:=[98,111,111,108]
def afB:List Nat:=[97,32,43,32,49,117,56,32,61,32,97]
def afI:List Nat:=[105,52]
def afC:List Nat:=[105,52,40,97,41]
def afJ:List Nat:=[117,56]
def afD:List Nat:=[97,32,43,32,49,105,56]
def afK:List Nat:=[98,111,111,108]
def afE:List Nat:=[98,111,111,108,40,97,41]
def afL:List Nat:=[117,56]
def afF:List Nat:=[105,102,32,97,32,116,104,101,110,32,97,32,101,108,115,101,32,97]
def afM:List Nat:=[117,55]
def afG:List Nat:=[97]
set_option maxRecDepth 100000 in
def ayb:uh E7 10000000 75 [.str afH, .str afB]=some (.tuple [.str [98,111,111,108], .agg [.int .i64 0, .int .i64 0]]):=Zk
set_option maxRecDepth 100000 in
def ayc:uh E7 10000000 75 [.str afI, .str afC]=some (.tuple [.str [105,52], .agg [.int .i64 0, .int .i64 0]]):=Zk
set_option maxRecDepth 100000 in
def ayd:uh E7 10000000 75 [.str afJ, .str afD]=some (.tuple [.str [], .agg [.int .i64 26, .int .i64 4]]):=Zk
set_option maxRecDepth 100000 in
def aye:uh E7 10000000 75 [.str afK, .str afE]=some (.tuple [.str [], .agg [.int .i64 26, .int .i64 2]]):=Zk
set_option maxRecDepth 100000 in
def ayf:uh E7 10000000 75 [.str afL, .str afF]=some (.tuple [.str [], .agg [.int .i64 26, .int .i64 2]]):=Zk
set_option maxRecDepth 100000 in
def ayg:uh E7 10000000 75 [.str afM, .str afG]=some (.tuple [.str [], .agg [.int .i64 26, .int .i64 0]]):=Zk
def q8:List (Nat×List J×J):=[(75,[.str afH, .str afB], .tuple [.str [98,111,111,108], .agg [.int .i64 0, .int .i64 0]]),(75,[.str afI, .str afC], .tuple [.str [105,52], .agg [.int .i64 0, .int .i64 0]]),(75,[.str afJ, .str afD], .tuple [.str [], .agg [.int .i64 26, .int .i64 4]]),(75,[.str afK, .str afE], .tuple [.str [], .agg [.int .i64 26, .int .i64 2]]),(75,[.str afL, .str afF], .tuple [.str [], .agg [.int .i64 26, .int .i64 2]]),(75,[.str afM, .str afG], .tuple [.str [], .agg [.int .i64 26, .int .i64 0]])]
def gz:Nat->List J->Option J:=NO [75] iN q8
def alg:a2:=⟨Tryz.prog,fy,22,gz,Tryz.prog.globals.size⟩
set_option maxRecDepth 100000 in
def ax5:uh alg 1000000 30 []=some (.bool true):=Zk
end
end Go.Proofs.YtpfajohmofnkfaaGreatDoor

namespace Go.Proofs
open Go.Shelf
def Tryz.atD:Go.Shelf.Ren:=⟨fun|316=>240|n=>n,fun|9=>9|3=>3|4=>4|37=>22|0=>0|127=>303|5=>5|n=>n,fun|n=>n⟩
def Tryz.atC:Go.Proofs.LaysM.n316 Tryz.prog Tryz.atD:={
 mixed:=Zk
 f316:=Tryz.func240.trans (congrArg some Zk)
 t0:=Tryz.underlying0
 a0:=Tryz.isAgg0
 z0:=Tryz.sizeOf0
 v0:=Tryz.zeroValue0
 t3:=Tryz.underlying3
 a3:=Tryz.isAgg3
 z3:=Tryz.sizeOf3
 v3:=Tryz.zeroValue3
 t4:=Tryz.underlying4
 a4:=Tryz.isAgg4
 z4:=Tryz.sizeOf4
 v4:=Tryz.zeroValue4
 t9:=Tryz.underlying9
 a9:=Tryz.isAgg9
 z9:=Tryz.sizeOf9
 v9:=Tryz.zeroValue9
 t37:=Tryz.underlying22
 a37:=Tryz.isAgg22
 z37:=Tryz.sizeOf22
 v37:=Tryz.zeroValue22
 t127:=Tryz.underlying303
 a127:=Tryz.isAgg303
 z127:=Tryz.sizeOf303
 v127:=Tryz.zeroValue303
 t5:=Tryz.underlying5
 a5:=Tryz.isAgg5
 z5:=Tryz.sizeOf5
 v5:=Tryz.zeroValue5
 i0:=Zk
 i3:=Zk
 i4:=Zk
 i5:=Zk
 i9:=Zk
 i37:=Zk
 i127:=by kernel_rfl}
open Go.RowKit in
def Tryz.stringslite_Clone(s:ByteArray)(w:World)(pZ:s.size<=281474976710656):
 Calls Tryz.prog 240 #[.string s] w λI bZ=>I= .returned (.string s)/\Below w.heap.size w bZ:=Any.stringslite_Clone Tryz.atC s w pZ
end Go.Proofs

