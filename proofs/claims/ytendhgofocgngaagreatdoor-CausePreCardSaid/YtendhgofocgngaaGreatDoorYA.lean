/- Part of the proof of the last text; no conditions -/
import Derived.Test.YtendhgofocgngaaGreatDoorYz
import Derived.Shelf.LaysM
import Derived.Shelf.Strconv.Clone
set_option maxHeartbeats 8000000
set_option linter.all false
namespace Go.Proofs.YtendhgofocgngaaGreatDoor
open Go.bn
noncomputable section
def kD:Nat->List z->Option z:=wX 143 (wY 119)
def QG:aK:=⟨Tryz.prog,fo,22,kD,Tryz.prog.globals.size⟩
def ahb:List Nat:=[110,111,100,101,32,102,40,105,58,32,117,56,41,32,114,101,116,117,114,110,115,32,40,120,58,32,117,56,41,32,108,101,116,32,120,32,61,32,105,59,32,116,101,108,32,110,111,100,101,32,103,40,41,32,114,101,116,117,114,110,115,32,40,120,44,32,121,58,32,117,56,41,32,108,101,116,32,120,32,61,32,121,59,32,121,32,61,32,48,117,56,32,45,62,32,112,114,101,32,120,59,32,116,101,108]
def ahc:List Nat:=[110,111,100,101,32,102,40,105,58,32,117,56,41,32,114,101,116,117,114,110,115,32,40,120,58,32,117,56,41,32,108,101,116,32,120,32,61,32,105,59,32,116,101,108,32,110,111,100,101,32,103,40,41,32,114,101,116,117,114,110,115,32,40,120,44,32,121,58,32,117,56,41,32,108,101,116,32,120,32,61,32,121,32,43,32,49,117,56,59,32,121,32,61,32,120,59,32,116,101,108]
def ahd:List Nat:=[110,111,100,101,32,102,40,105,58,32,117,56,41,32,114,101,116,117,114,110,115,32,40,120,58,32,117,56,41,32,108,101,116,32,120,32,61,32,105,59,32,116,101,108,32,110,111,100,101,32,103,40,41,32,114,101,116,117,114,110,115,32,40,120,44,32,121,58,32,117,56,41,32,108,101,116,32,120,32,61,32,102,40,120,41,59,32,121,32,61,32,120,59,32,116,101,108]
set_option maxRecDepth 100000 in
def azz:yX QG 10000000 20 [.str ahb]=some (.agg [.int .i64 0, .int .i64 0]):=Zk
set_option maxRecDepth 100000 in
def azA:yX QG 10000000 20 [.str ahc]=some (.agg [.int .i64 29, .int .i64 79]):=Zk
set_option maxRecDepth 100000 in
def azB:yX QG 10000000 20 [.str ahd]=some (.agg [.int .i64 29, .int .i64 79]):=Zk
def qM:List (Nat×List z×z):=[(20,[.str ahb], .agg [.int .i64 0, .int .i64 0]),(20,[.str ahc], .agg [.int .i64 29, .int .i64 79]),(20,[.str ahd], .agg [.int .i64 29, .int .i64 79])]
def gZ:Nat->List z->Option z:=OL [20] kD qM
def amo:aK:=⟨Tryz.prog,fo,22,gZ,Tryz.prog.globals.size⟩
set_option maxRecDepth 100000 in
def azu:yX amo 1000000 5 []=some (.bool true):=Zk
end
end Go.Proofs.YtendhgofocgngaaGreatDoor

namespace Go.Proofs
open Go.Shelf
def Tryz.auT:Go.Shelf.Ren:=⟨fun|316=>143|n=>n,fun|9=>9|3=>3|4=>4|37=>22|0=>0|127=>230|5=>5|n=>n,fun|n=>n⟩
def Tryz.auS:Go.Proofs.LaysM.n316 Tryz.prog Tryz.auT:={
 mixed:=Zk
 f316:=Tryz.func143.trans (congrArg some Zk)
 t0:=Tryz.underlying0
 a0:=Tryz.isAgg0
 z0:=Tryz.sizeOf0
 v0:=Tryz.zeroValue0
 t3:=Tryz.underlying3
 a3:=Tryz.isAgg3
 z3:=Tryz.sizeOf3
 v3:=Tryz.zeroValue3
 t4:=Tryz.underlying4
 a4:=Tryz.isAgg4
 z4:=Tryz.sizeOf4
 v4:=Tryz.zeroValue4
 t9:=Tryz.underlying9
 a9:=Tryz.isAgg9
 z9:=Tryz.sizeOf9
 v9:=Tryz.zeroValue9
 t37:=Tryz.underlying22
 a37:=Tryz.isAgg22
 z37:=Tryz.sizeOf22
 v37:=Tryz.zeroValue22
 t127:=Tryz.underlying230
 a127:=Tryz.isAgg230
 z127:=Tryz.sizeOf230
 v127:=Tryz.zeroValue230
 t5:=Tryz.underlying5
 a5:=Tryz.isAgg5
 z5:=Tryz.sizeOf5
 v5:=Tryz.zeroValue5
 i0:=Zk
 i3:=Zk
 i4:=Zk
 i5:=Zk
 i9:=Zk
 i37:=Zk
 i127:=by kernel_rfl}
open Go.RowKit in
def Tryz.stringslite_Clone(s:ByteArray)(w:World)(re:s.size<=281474976710656):
 Calls Tryz.prog 143 #[.string s] w λB bE=>B= .returned (.string s)/\Below w.heap.size w bE:=Any.stringslite_Clone Tryz.auS s w re
end Go.Proofs

