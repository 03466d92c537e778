/- Part of the proof of the last text; no conditions -/
import Derived.Test.YtpeabpmnlmaabaaGreatDoorYm
import Derived.Shelf.LaysM
import Derived.Shelf.Strconv.Clone
set_option maxHeartbeats 8000000
set_option linter.all false
namespace Go.Proofs.YtpeabpmnlmaabaaGreatDoor
open Go.bg
noncomputable section
def ld:Nat->List E->Option E:=yl 129 (ym 108)
def SB:aN:=⟨Tryz.prog,fM,22,ld,Tryz.prog.globals.size⟩
def aks:List Nat:=[110,111,100,101,32,102,40,99,58,32,98,111,111,108,59,32,120,58,32,117,56,41,32,114,101,116,117,114,110,115,32,40,121,58,32,117,56,41,32,118,97,114,32,122,58,32,117,56,32,119,104,101,110,32,99,59,32,108,101,116,32,122,32,61,32,120,32,119,104,101,110,32,99,59,32,121,32,61,32,109,101,114,103,101,32,99,32,40,122,41,32,40,48,117,56,41,59,32,116,101,108]
def akt:List Nat:=[110,111,100,101,32,102,40,99,58,32,98,111,111,108,59,32,120,58,32,117,56,41,32,114,101,116,117,114,110,115,32,40,121,58,32,117,56,41,32,118,97,114,32,122,58,32,117,56,32,119,104,101,110,32,99,59,32,108,101,116,32,122,32,61,32,120,59,32,121,32,61,32,120,59,32,116,101,108]
def aku:List Nat:=[110,111,100,101,32,102,40,99,58,32,98,111,111,108,59,32,120,58,32,117,56,41,32,114,101,116,117,114,110,115,32,40,121,58,32,117,56,41,32,118,97,114,32,122,58,32,117,56,32,119,104,101,110,32,99,59,32,108,101,116,32,122,32,61,32,120,32,119,104,101,110,32,99,59,32,121,32,61,32,120,32,43,32,40,120,32,119,104,101,110,32,99,41,59,32,116,101,108]
set_option maxRecDepth 100000 in
def aEb:Bl SB 10000000 26 [.str aks]=some (.agg [.int .i64 0, .int .i64 0]):=Zk
set_option maxRecDepth 100000 in
def aEc:Bl SB 10000000 26 [.str akt]=some (.agg [.int .i64 27, .int .i64 65]):=Zk
set_option maxRecDepth 100000 in
def aEd:Bl SB 10000000 26 [.str aku]=some (.agg [.int .i64 27, .int .i64 86]):=Zk
def sj:List (Nat×List E×E):=[(26,[.str aks], .agg [.int .i64 0, .int .i64 0]),(26,[.str akt], .agg [.int .i64 27, .int .i64 65]),(26,[.str aku], .agg [.int .i64 27, .int .i64 86])]
def hc:Nat->List E->Option E:=Qx [26] ld sj
def aqs:aN:=⟨Tryz.prog,fM,22,hc,Tryz.prog.globals.size⟩
set_option maxRecDepth 100000 in
def aD5:Bl aqs 1000000 7 []=some (.bool true):=Zk
end
end Go.Proofs.YtpeabpmnlmaabaaGreatDoor

namespace Go.Proofs
open Go.Shelf
def Tryz.ayX:Go.Shelf.Ren:=⟨fun|316=>129|n=>n,fun|9=>9|3=>3|4=>4|37=>22|0=>0|127=>205|5=>5|n=>n,fun|n=>n⟩
def Tryz.ayW:Go.Proofs.LaysM.n316 Tryz.prog Tryz.ayX:={
 mixed:=Zk
 f316:=Tryz.func129.trans (congrArg some Zk)
 t0:=Tryz.underlying0
 a0:=Tryz.isAgg0
 z0:=Tryz.sizeOf0
 v0:=Tryz.zeroValue0
 t3:=Tryz.underlying3
 a3:=Tryz.isAgg3
 z3:=Tryz.sizeOf3
 v3:=Tryz.zeroValue3
 t4:=Tryz.underlying4
 a4:=Tryz.isAgg4
 z4:=Tryz.sizeOf4
 v4:=Tryz.zeroValue4
 t9:=Tryz.underlying9
 a9:=Tryz.isAgg9
 z9:=Tryz.sizeOf9
 v9:=Tryz.zeroValue9
 t37:=Tryz.underlying22
 a37:=Tryz.isAgg22
 z37:=Tryz.sizeOf22
 v37:=Tryz.zeroValue22
 t127:=Tryz.underlying205
 a127:=Tryz.isAgg205
 z127:=Tryz.sizeOf205
 v127:=Tryz.zeroValue205
 t5:=Tryz.underlying5
 a5:=Tryz.isAgg5
 z5:=Tryz.sizeOf5
 v5:=Tryz.zeroValue5
 i0:=Zk
 i3:=Zk
 i4:=Zk
 i5:=Zk
 i9:=Zk
 i37:=Zk
 i127:=by kernel_rfl}
open Go.RowKit in
def Tryz.stringslite_Clone(s:ByteArray)(w:World)(p0:s.size<=281474976710656):
 Calls Tryz.prog 129 #[.string s] w λD b5=>D= .returned (.string s)/\Below w.heap.size w b5:=Any.stringslite_Clone Tryz.ayW s w p0
end Go.Proofs

