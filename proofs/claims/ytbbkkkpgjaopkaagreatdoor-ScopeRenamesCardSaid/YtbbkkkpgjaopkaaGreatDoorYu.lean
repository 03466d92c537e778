/- Part of the proof of the last text; no conditions -/
import Derived.Test.YtbbkkkpgjaopkaaGreatDoorYt
import Derived.Shelf.LaysM
import Derived.Shelf.Strconv.Clone
set_option maxHeartbeats 8000000
set_option linter.all false
namespace Go.Proofs.YtbbkkkpgjaopkaaGreatDoor
open Go.bp
noncomputable section
def j3:Nat->List z->Option z:=vK 114 (vL 99)
def Oq:aM:=⟨Tryz.prog,e9,21,j3,Tryz.prog.globals.size⟩
def aee:List Nat:=[110,111,100,101,32,102,40,41,32,114,101,116,117,114,110,115,32,40,120,58,32,98,111,111,108,41,32,108,101,116,32,120,32,61,32,121,59,32,116,101,108]
def aef:List Nat:=[110,111,100,101,32,102,40,121,58,32,98,111,111,108,41,32,114,101,116,117,114,110,115,32,40,120,58,32,98,111,111,108,41,32,108,101,116,32,120,32,61,32,102,40,121,41,59,32,116,101,108]
def aeg:List Nat:=[110,111,100,101,32,102,40,41,32,114,101,116,117,114,110,115,32,40,120,58,32,98,111,111,108,41,32,108,101,116,32,116,101,108]
set_option maxRecDepth 100000 in
def avb:xE Oq 10000000 21 [.str aee]=some (.agg [.int .i64 23, .int .i64 35]):=Zk
set_option maxRecDepth 100000 in
def avc:xE Oq 10000000 21 [.str aef]=some (.agg [.int .i64 25, .int .i64 42]):=Zk
set_option maxRecDepth 100000 in
def avd:xE Oq 10000000 21 [.str aeg]=some (.agg [.int .i64 37, .int .i64 18]):=Zk
def qz:List (Nat×List z×z):=[(21,[.str aee], .agg [.int .i64 23, .int .i64 35]),(21,[.str aef], .agg [.int .i64 25, .int .i64 42]),(21,[.str aeg], .agg [.int .i64 37, .int .i64 18])]
def gH:Nat->List z->Option z:=MD [21] j3 qz
def ai2:aM:=⟨Tryz.prog,e9,21,gH,Tryz.prog.globals.size⟩
set_option maxRecDepth 100000 in
def au6:xE ai2 1000000 6 []=some (.bool true):=Zk
end
end Go.Proofs.YtbbkkkpgjaopkaaGreatDoor

namespace Go.Proofs
open Go.Shelf
def Tryz.aqw:Go.Shelf.Ren:=⟨fun|316=>114|n=>n,fun|9=>9|3=>3|4=>4|37=>22|0=>0|127=>175|5=>5|n=>n,fun|n=>n⟩
def Tryz.aqv:Go.Proofs.LaysM.n316 Tryz.prog Tryz.aqw:={
 mixed:=Zk
 f316:=Tryz.func114.trans (congrArg some Zk)
 t0:=Tryz.underlying0
 a0:=Tryz.isAgg0
 z0:=Tryz.sizeOf0
 v0:=Tryz.zeroValue0
 t3:=Tryz.underlying3
 a3:=Tryz.isAgg3
 z3:=Tryz.sizeOf3
 v3:=Tryz.zeroValue3
 t4:=Tryz.underlying4
 a4:=Tryz.isAgg4
 z4:=Tryz.sizeOf4
 v4:=Tryz.zeroValue4
 t9:=Tryz.underlying9
 a9:=Tryz.isAgg9
 z9:=Tryz.sizeOf9
 v9:=Tryz.zeroValue9
 t37:=Tryz.underlying22
 a37:=Tryz.isAgg22
 z37:=Tryz.sizeOf22
 v37:=Tryz.zeroValue22
 t127:=Tryz.underlying175
 a127:=Tryz.isAgg175
 z127:=Tryz.sizeOf175
 v127:=Tryz.zeroValue175
 t5:=Tryz.underlying5
 a5:=Tryz.isAgg5
 z5:=Tryz.sizeOf5
 v5:=Tryz.zeroValue5
 i0:=Zk
 i3:=Zk
 i4:=Zk
 i5:=Zk
 i9:=Zk
 i37:=Zk
 i127:=by kernel_rfl}
open Go.RowKit in
def Tryz.stringslite_Clone(s:ByteArray)(w:World)(oC:s.size<=281474976710656):
 Calls Tryz.prog 114 #[.string s] w λB bO=>B= .returned (.string s)/\Below w.heap.size w bO:=Any.stringslite_Clone Tryz.aqv s w oC
end Go.Proofs

