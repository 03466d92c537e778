/- A part of the last text's proof; no condition of its own -/
import Derived.Test.YtpfajohmofnkfaaGreatDoorYr
import Derived.Shelf.LaysM
import Derived.Shelf.Strconv.Clone
set_option maxHeartbeats 8000000
set_option linter.all false
namespace Go.Proofs.YtpfajohmofnkfaaGreatDoor
open Go.bi
noncomputable section
def kf:Nat->List F->Option F:=xg 240 (xh 223)
def EH:aZ:=⟨Tryz.prog,fk,22,kf,Tryz.prog.globals.size⟩
def afB:List Nat:=[98,111,111,108]
def afv:List Nat:=[97,32,43,32,49,117,56,32,61,32,97]
def afC:List Nat:=[105,52]
def afw:List Nat:=[105,52,40,97,41]
def afD:List Nat:=[117,56]
def afx:List Nat:=[97,32,43,32,49,105,56]
def afE:List Nat:=[98,111,111,108]
def afy:List Nat:=[98,111,111,108,40,97,41]
def afF:List Nat:=[117,56]
def afz:List Nat:=[105,102,32,97,32,116,104,101,110,32,97,32,101,108,115,101,32,97]
def afG:List Nat:=[117,55]
def afA:List Nat:=[97]
set_option maxRecDepth 100000 in
def axW:tE EH 10000000 75 [.str afB, .str afv]=some (.tuple [.str [98,111,111,108], .agg [.int .i64 0, .int .i64 0]]):=Zk
set_option maxRecDepth 100000 in
def axX:tE EH 10000000 75 [.str afC, .str afw]=some (.tuple [.str [105,52], .agg [.int .i64 0, .int .i64 0]]):=Zk
set_option maxRecDepth 100000 in
def axY:tE EH 10000000 75 [.str afD, .str afx]=some (.tuple [.str [], .agg [.int .i64 26, .int .i64 4]]):=Zk
set_option maxRecDepth 100000 in
def axZ:tE EH 10000000 75 [.str afE, .str afy]=some (.tuple [.str [], .agg [.int .i64 26, .int .i64 2]]):=Zk
set_option maxRecDepth 100000 in
def ax0:tE EH 10000000 75 [.str afF, .str afz]=some (.tuple [.str [], .agg [.int .i64 26, .int .i64 2]]):=Zk
set_option maxRecDepth 100000 in
def ax1:tE EH 10000000 75 [.str afG, .str afA]=some (.tuple [.str [], .agg [.int .i64 26, .int .i64 0]]):=Zk
def qO:List (Nat×List F×F):=[(75,[.str afB, .str afv], .tuple [.str [98,111,111,108], .agg [.int .i64 0, .int .i64 0]]),(75,[.str afC, .str afw], .tuple [.str [105,52], .agg [.int .i64 0, .int .i64 0]]),(75,[.str afD, .str afx], .tuple [.str [], .agg [.int .i64 26, .int .i64 4]]),(75,[.str afE, .str afy], .tuple [.str [], .agg [.int .i64 26, .int .i64 2]]),(75,[.str afF, .str afz], .tuple [.str [], .agg [.int .i64 26, .int .i64 2]]),(75,[.str afG, .str afA], .tuple [.str [], .agg [.int .i64 26, .int .i64 0]])]
def gN:Nat->List F->Option F:=Nx [75] kf qO
def ak5:aZ:=⟨Tryz.prog,fk,22,gN,Tryz.prog.globals.size⟩
set_option maxRecDepth 100000 in
def axQ:tE ak5 1000000 30 []=some (.bool true):=Zk
end
end Go.Proofs.YtpfajohmofnkfaaGreatDoor

namespace Go.Proofs
open Go.Shelf
def Tryz.atl:Go.Shelf.Ren:=⟨fun|316=>240|n=>n,fun|9=>9|3=>3|4=>4|37=>22|0=>0|127=>303|5=>5|n=>n,fun|n=>n⟩
def Tryz.atk:Go.Proofs.LaysM.n316 Tryz.prog Tryz.atl:={
 mixed:=Zk
 f316:=Tryz.func240.trans (congrArg some Zk)
 t0:=Tryz.underlying0
 a0:=Tryz.isAgg0
 z0:=Tryz.sizeOf0
 v0:=Tryz.zeroValue0
 t3:=Tryz.underlying3
 a3:=Tryz.isAgg3
 z3:=Tryz.sizeOf3
 v3:=Tryz.zeroValue3
 t4:=Tryz.underlying4
 a4:=Tryz.isAgg4
 z4:=Tryz.sizeOf4
 v4:=Tryz.zeroValue4
 t9:=Tryz.underlying9
 a9:=Tryz.isAgg9
 z9:=Tryz.sizeOf9
 v9:=Tryz.zeroValue9
 t37:=Tryz.underlying22
 a37:=Tryz.isAgg22
 z37:=Tryz.sizeOf22
 v37:=Tryz.zeroValue22
 t127:=Tryz.underlying303
 a127:=Tryz.isAgg303
 z127:=Tryz.sizeOf303
 v127:=Tryz.zeroValue303
 t5:=Tryz.underlying5
 a5:=Tryz.isAgg5
 z5:=Tryz.sizeOf5
 v5:=Tryz.zeroValue5
 i0:=Zk
 i3:=Zk
 i4:=Zk
 i5:=Zk
 i9:=Zk
 i37:=Zk
 i127:=by kernel_rfl}
open Go.RowKit in
def Tryz.stringslite_Clone(s:ByteArray)(w:World)(pH:s.size<=281474976710656):
 Calls Tryz.prog 240 #[.string s] w λJ bW=>J= .returned (.string s)/\Below w.heap.size w bW:=Any.stringslite_Clone Tryz.atk s w pH
end Go.Proofs

