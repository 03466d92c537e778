/- Part of the proof of the last text; no conditions -/
import Derived.Test.YtbbkkkpgjaopkaaGreatDoorYA
import Derived.Shelf.LaysM
import Derived.Shelf.Strconv.Clone
set_option maxHeartbeats 8000000
set_option linter.all false
namespace Go.Proofs.YtbbkkkpgjaopkaaGreatDoor
open Go.bs
noncomputable section
def kC:Nat->List y->Option y:=wp 114 (wq 99)
def Po:aT:=⟨Tryz.prog,fk,21,kC,Tryz.prog.globals.size⟩
def aeQ:List Nat:=[110,111,100,101,32,102,40,41,32,114,101,116,117,114,110,115,32,40,120,58,32,98,111,111,108,41,32,108,101,116,32,120,32,61,32,121,59,32,116,101,108]
def aeR:List Nat:=[110,111,100,101,32,102,40,121,58,32,98,111,111,108,41,32,114,101,116,117,114,110,115,32,40,120,58,32,98,111,111,108,41,32,108,101,116,32,120,32,61,32,102,40,121,41,59,32,116,101,108]
def aeS:List Nat:=[110,111,100,101,32,102,40,41,32,114,101,116,117,114,110,115,32,40,120,58,32,98,111,111,108,41,32,108,101,116,32,116,101,108]
set_option maxRecDepth 100000 in
def avJ:ym Po 10000000 21 [.str aeQ]=some (.agg [.int .i64 23, .int .i64 35]):=Zk
set_option maxRecDepth 100000 in
def avK:ym Po 10000000 21 [.str aeR]=some (.agg [.int .i64 25, .int .i64 42]):=Zk
set_option maxRecDepth 100000 in
def avL:ym Po 10000000 21 [.str aeS]=some (.agg [.int .i64 37, .int .i64 18]):=Zk
def qV:List (Nat×List y×y):=[(21,[.str aeQ], .agg [.int .i64 23, .int .i64 35]),(21,[.str aeR], .agg [.int .i64 25, .int .i64 42]),(21,[.str aeS], .agg [.int .i64 37, .int .i64 18])]
def gO:Nat->List y->Option y:=Np [21] kC qV
def ajC:aT:=⟨Tryz.prog,fk,21,gO,Tryz.prog.globals.size⟩
set_option maxRecDepth 100000 in
def avC:ym ajC 1000000 6 []=some (.bool true):=Zk
end
end Go.Proofs.YtbbkkkpgjaopkaaGreatDoor

namespace Go.Proofs
open Go.Shelf
def Tryz.ark:Go.Shelf.Ren:=⟨fun|316=>114|n=>n,fun|9=>9|3=>3|4=>4|37=>22|0=>0|127=>175|5=>5|n=>n,fun|n=>n⟩
def Tryz.arj:Go.Proofs.LaysM.n316 Tryz.prog Tryz.ark:={
 mixed:=Zk
 f316:=Tryz.func114.trans (congrArg some Zk)
 t0:=Tryz.underlying0
 a0:=Tryz.isAgg0
 z0:=Tryz.sizeOf0
 v0:=Tryz.zeroValue0
 t3:=Tryz.underlying3
 a3:=Tryz.isAgg3
 z3:=Tryz.sizeOf3
 v3:=Tryz.zeroValue3
 t4:=Tryz.underlying4
 a4:=Tryz.isAgg4
 z4:=Tryz.sizeOf4
 v4:=Tryz.zeroValue4
 t9:=Tryz.underlying9
 a9:=Tryz.isAgg9
 z9:=Tryz.sizeOf9
 v9:=Tryz.zeroValue9
 t37:=Tryz.underlying22
 a37:=Tryz.isAgg22
 z37:=Tryz.sizeOf22
 v37:=Tryz.zeroValue22
 t127:=Tryz.underlying175
 a127:=Tryz.isAgg175
 z127:=Tryz.sizeOf175
 v127:=Tryz.zeroValue175
 t5:=Tryz.underlying5
 a5:=Tryz.isAgg5
 z5:=Tryz.sizeOf5
 v5:=Tryz.zeroValue5
 i0:=Zk
 i3:=Zk
 i4:=Zk
 i5:=Zk
 i9:=Zk
 i37:=Zk
 i127:=by kernel_rfl}
open Go.RowKit in
def Tryz.stringslite_Clone(s:ByteArray)(w:World)(ka:s.size<=281474976710656):
 Calls Tryz.prog 114 #[.string s] w λD w'=>D= .returned (.string s)/\Below w.heap.size w w':=Any.stringslite_Clone Tryz.arj s w ka
end Go.Proofs

