/- A part of the last text's proof; no condition of its own -/
import Derived.Test.YtpfajohmofnkfaaGreatDoorYq
import Derived.Shelf.LaysM
import Derived.Shelf.Strconv.Clone
set_option maxHeartbeats 8000000
set_option linter.all false
namespace Go.Proofs.YtpfajohmofnkfaaGreatDoor
open Go.bd
noncomputable section
def kw:Nat->List D->Option D:=yI 240 (yJ 223)
def D4:aL:=⟨Tryz.prog,fu,22,kw,Tryz.prog.globals.size⟩
def air:List Nat:=[49,117,56,32,45,62,32,112,114,101,32,120]
def ais:List Nat:=[40,112,114,101,32,120,41,32,45,62,32,120]
def ait:List Nat:=[97,32,43,32,112,114,101,32,120]
def aiu:List Nat:=[97,32,45,62,32,112,114,101,32,40,98,32,45,62,32,112,114,101,32,120,41]
def aiv:List Nat:=[97,32,45,62,32,112,114,101,32,112,114,101,32,98]
def aiw:List Nat:=[97,32,45,62,32,109,101,114,103,101,32,99,32,40,40,112,114,101,32,98,41,32,119,104,101,110,32,99,41,32,40,98,32,119,104,101,110,32,110,111,116,32,99,41]
def aix:List Nat:=[97,32,45,62,32,103,40,112,114,101,32,98,41]
set_option maxRecDepth 100000 in
def aBl:tX D4 10000000 101 [.str air]=some (.agg [.int .i64 0, .int .i64 0]):=Zk
set_option maxRecDepth 100000 in
def aBm:tX D4 10000000 101 [.str ais]=some (.agg [.int .i64 28, .int .i64 0]):=Zk
set_option maxRecDepth 100000 in
def aBn:tX D4 10000000 101 [.str ait]=some (.agg [.int .i64 28, .int .i64 0]):=Zk
set_option maxRecDepth 100000 in
def aBo:tX D4 10000000 101 [.str aiu]=some (.agg [.int .i64 0, .int .i64 0]):=Zk
set_option maxRecDepth 100000 in
def aBp:tX D4 10000000 101 [.str aiv]=some (.agg [.int .i64 28, .int .i64 7]):=Zk
set_option maxRecDepth 100000 in
def aBq:tX D4 10000000 101 [.str aiw]=some (.agg [.int .i64 28, .int .i64 24]):=Zk
set_option maxRecDepth 100000 in
def aBr:tX D4 10000000 101 [.str aix]=some (.agg [.int .i64 28, .int .i64 7]):=Zk
def rW:List (Nat×List D×D):=[(101,[.str air], .agg [.int .i64 0, .int .i64 0]),(101,[.str ais], .agg [.int .i64 28, .int .i64 0]),(101,[.str ait], .agg [.int .i64 28, .int .i64 0]),(101,[.str aiu], .agg [.int .i64 0, .int .i64 0]),(101,[.str aiv], .agg [.int .i64 28, .int .i64 7]),(101,[.str aiw], .agg [.int .i64 28, .int .i64 24]),(101,[.str aix], .agg [.int .i64 28, .int .i64 7])]
def gS:Nat->List D->Option D:=P6 [101] kw rW
def aoa:aL:=⟨Tryz.prog,fu,22,gS,Tryz.prog.globals.size⟩
set_option maxRecDepth 100000 in
def aBe:tX aoa 1000000 50 []=some (.bool true):=Zk
end
end Go.Proofs.YtpfajohmofnkfaaGreatDoor

namespace Go.Proofs
open Go.Shelf
def Tryz.awF:Go.Shelf.Ren:=⟨fun|316=>240|n=>n,fun|9=>9|3=>3|4=>4|37=>22|0=>0|127=>303|5=>5|n=>n,fun|n=>n⟩
def Tryz.awE:Go.Proofs.LaysM.n316 Tryz.prog Tryz.awF:={
 mixed:=Zk
 f316:=Tryz.func240.trans (congrArg some Zk)
 t0:=Tryz.underlying0
 a0:=Tryz.isAgg0
 z0:=Tryz.sizeOf0
 v0:=Tryz.zeroValue0
 t3:=Tryz.underlying3
 a3:=Tryz.isAgg3
 z3:=Tryz.sizeOf3
 v3:=Tryz.zeroValue3
 t4:=Tryz.underlying4
 a4:=Tryz.isAgg4
 z4:=Tryz.sizeOf4
 v4:=Tryz.zeroValue4
 t9:=Tryz.underlying9
 a9:=Tryz.isAgg9
 z9:=Tryz.sizeOf9
 v9:=Tryz.zeroValue9
 t37:=Tryz.underlying22
 a37:=Tryz.isAgg22
 z37:=Tryz.sizeOf22
 v37:=Tryz.zeroValue22
 t127:=Tryz.underlying303
 a127:=Tryz.isAgg303
 z127:=Tryz.sizeOf303
 v127:=Tryz.zeroValue303
 t5:=Tryz.underlying5
 a5:=Tryz.isAgg5
 z5:=Tryz.sizeOf5
 v5:=Tryz.zeroValue5
 i0:=Zk
 i3:=Zk
 i4:=Zk
 i5:=Zk
 i9:=Zk
 i37:=Zk
 i127:=by kernel_rfl}
open Go.RowKit in
def Tryz.stringslite_Clone(s:ByteArray)(w:World)(oR:s.size<=281474976710656):
 Calls Tryz.prog 240 #[.string s] w λE b1=>E= .returned (.string s)/\Below w.heap.size w b1:=Any.stringslite_Clone Tryz.awE s w oR
end Go.Proofs

