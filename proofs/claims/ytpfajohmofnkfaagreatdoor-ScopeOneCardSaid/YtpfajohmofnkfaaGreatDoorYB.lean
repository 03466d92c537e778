/- A part of the proof of the claim's last text: what it is used for is said there; no condition of its own. -/
import Derived.Test.YtpfajohmofnkfaaGreatDoorYA
import Derived.Shelf.LaysM
import Derived.Shelf.Strconv.Clone
set_option maxHeartbeats 8000000
set_option linter.unusedVariables false
set_option linter.unusedSimpArgs false
namespace Go.Proofs.YtpfajohmofnkfaaGreatDoor
open Go.al
noncomputable section
def UV:aX:=⟨Tryz.prog,fi,22,wi 240 (wj 223),Tryz.prog.globals.size⟩
set_option maxRecDepth 100000 in
theorem as0:Mj UV 1000000 16 []=some (.bool true):=by kernel_rfl
end
end Go.Proofs.YtpfajohmofnkfaaGreatDoor

namespace Go.Proofs
open Go.Shelf
def Tryz.aoM:Go.Shelf.Ren:=⟨fun|316=>240|n=>n,fun|9=>9|3=>3|4=>4|37=>22|0=>0|127=>303|5=>5|n=>n,fun|n=>n⟩
theorem Tryz.aoL:Go.Proofs.LaysM.n316 Tryz.prog Tryz.aoM:={
 mixed:=by kernel_rfl
 f316:=Tryz.func240.trans (congrArg some (by kernel_rfl))
 t0:=Tryz.underlying0
 a0:=Tryz.isAgg0
 z0:=Tryz.sizeOf0
 v0:=Tryz.zeroValue0
 t3:=Tryz.underlying3
 a3:=Tryz.isAgg3
 z3:=Tryz.sizeOf3
 v3:=Tryz.zeroValue3
 t4:=Tryz.underlying4
 a4:=Tryz.isAgg4
 z4:=Tryz.sizeOf4
 v4:=Tryz.zeroValue4
 t9:=Tryz.underlying9
 a9:=Tryz.isAgg9
 z9:=Tryz.sizeOf9
 v9:=Tryz.zeroValue9
 t37:=Tryz.underlying22
 a37:=Tryz.isAgg22
 z37:=Tryz.sizeOf22
 v37:=Tryz.zeroValue22
 t127:=Tryz.underlying303
 a127:=Tryz.isAgg303
 z127:=Tryz.sizeOf303
 v127:=Tryz.zeroValue303
 t5:=Tryz.underlying5
 a5:=Tryz.isAgg5
 z5:=Tryz.sizeOf5
 v5:=Tryz.zeroValue5
 i0:=by kernel_rfl
 i3:=by kernel_rfl
 i4:=by kernel_rfl
 i5:=by kernel_rfl
 i9:=by kernel_rfl
 i37:=by kernel_rfl
 i127:=by kernel_rfl}
open Go.RowKit in
theorem Tryz.stringslite_Clone(s:ByteArray)(w:World)(qv:s.size<=281474976710656):
 Calls Tryz.prog 240 #[.string s] w λE bz=>E= .returned (.string s)/\Below w.heap.size w bz:=Any.stringslite_Clone Tryz.aoL s w qv
end Go.Proofs

