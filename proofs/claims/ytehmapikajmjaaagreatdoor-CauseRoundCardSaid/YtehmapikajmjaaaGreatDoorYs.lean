/- Part of the proof of the last text; no conditions -/
import Derived.Test.YtehmapikajmjaaaGreatDoorYr
import Derived.Shelf.LaysM
import Derived.Shelf.Strconv.Clone
set_option maxHeartbeats 8000000
set_option linter.all false
namespace Go.Proofs.YtehmapikajmjaaaGreatDoor
open Go.aF
noncomputable section
def fO:Nat->List z->Option z:=n3 150 (n4 128)
def yW:al:=⟨Tryz.prog,dj,22,fO,Tryz.prog.globals.size⟩
def IZ:List Nat:=[110,111,100,101,32,102,40,105,58,32,117,56,41,32,114,101,116,117,114,110,115,32,40,120,58,32,117,56,41,32,108,101,116,32,120,32,61,32,105,59,32,116,101,108,32,110,111,100,101,32,103,40,41,32,114,101,116,117,114,110,115,32,40,120,44,32,121,58,32,117,56,41,32,108,101,116,32,120,32,61,32,121,59,32,121,32,61,32,48,117,56,32,45,62,32,112,114,101,32,120,59,32,116,101,108]
def I0:List Nat:=[110,111,100,101,32,102,40,105,58,32,117,56,41,32,114,101,116,117,114,110,115,32,40,120,58,32,117,56,41,32,108,101,116,32,120,32,61,32,105,59,32,116,101,108,32,110,111,100,101,32,103,40,41,32,114,101,116,117,114,110,115,32,40,120,44,32,121,58,32,117,56,41,32,108,101,116,32,120,32,61,32,121,32,43,32,49,117,56,59,32,121,32,61,32,120,59,32,116,101,108]
def I1:List Nat:=[110,111,100,101,32,102,40,105,58,32,117,56,41,32,114,101,116,117,114,110,115,32,40,120,58,32,117,56,41,32,108,101,116,32,120,32,61,32,105,59,32,116,101,108,32,110,111,100,101,32,103,40,41,32,114,101,116,117,114,110,115,32,40,120,44,32,121,58,32,117,56,41,32,108,101,116,32,120,32,61,32,102,40,120,41,59,32,121,32,61,32,120,59,32,116,101,108]
set_option maxRecDepth 100000 in
def acL:n9 yW 10000000 22 [.str IZ]=some (.agg [.int .i64 0,.int .i64 0]):=Zk
set_option maxRecDepth 100000 in
def acM:n9 yW 10000000 22 [.str I0]=some (.agg [.int .i64 29,.int .i64 79]):=Zk
set_option maxRecDepth 100000 in
def acN:n9 yW 10000000 22 [.str I1]=some (.agg [.int .i64 29,.int .i64 79]):=Zk
def kn:List (Nat×List z×z):=[(22,[.str IZ],.agg [.int .i64 0,.int .i64 0]),(22,[.str I0],.agg [.int .i64 29,.int .i64 79]),(22,[.str I1],.agg [.int .i64 29,.int .i64 79])]
def dH:Nat->List z->Option z:=Bu [22] fO kn
def OD:al:=⟨Tryz.prog,dj,22,dH,Tryz.prog.globals.size⟩
set_option maxRecDepth 100000 in
def acF:n9 OD 1000000 6 []=some (.bool true):=Zk
end
end Go.Proofs.YtehmapikajmjaaaGreatDoor
namespace Go.Proofs
open Go.Shelf
def Tryz.Sm:Go.Shelf.Ren:=⟨fun|316=>150|n=>n,fun|9=>9|3=>3|4=>4|37=>22|0=>0|127=>235|5=>5|n=>n,fun|n=>n⟩
def Tryz.Sl:Go.Proofs.LaysM.n316 Tryz.prog Tryz.Sm:={
 mixed:=Zk
 f316:=Tryz.func150.trans (congrArg some Zk)
 t0:=Tryz.underlying0
 a0:=Tryz.isAgg0
 z0:=Tryz.sizeOf0
 v0:=Tryz.zeroValue0
 t3:=Tryz.underlying3
 a3:=Tryz.isAgg3
 z3:=Tryz.sizeOf3
 v3:=Tryz.zeroValue3
 t4:=Tryz.underlying4
 a4:=Tryz.isAgg4
 z4:=Tryz.sizeOf4
 v4:=Tryz.zeroValue4
 t9:=Tryz.underlying9
 a9:=Tryz.isAgg9
 z9:=Tryz.sizeOf9
 v9:=Tryz.zeroValue9
 t37:=Tryz.underlying22
 a37:=Tryz.isAgg22
 z37:=Tryz.sizeOf22
 v37:=Tryz.zeroValue22
 t127:=Tryz.underlying235
 a127:=Tryz.isAgg235
 z127:=Tryz.sizeOf235
 v127:=Tryz.zeroValue235
 t5:=Tryz.underlying5
 a5:=Tryz.isAgg5
 z5:=Tryz.sizeOf5
 v5:=Tryz.zeroValue5
 i0:=Zk
 i3:=Zk
 i4:=Zk
 i5:=Zk
 i9:=Zk
 i37:=Zk
 i127:=by kernel_rfl}
open Go.RowKit in
def Tryz.stringslite_Clone(s:ByteArray)(w:World)(a:s.size<=281474976710656):
 Calls Tryz.prog 150 #[.string s] w λe a2=>e=.returned (.string s)/\Below w.heap.size w a2:=Any.stringslite_Clone Tryz.Sl s w a
end Go.Proofs
