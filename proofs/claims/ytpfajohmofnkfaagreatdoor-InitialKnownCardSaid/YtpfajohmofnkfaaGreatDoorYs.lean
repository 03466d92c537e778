/- A part of it -/
import Derived.Test.YtpfajohmofnkfaaGreatDoorYx
import Derived.Test.YtpfajohmofnkfaaGreatDoorYy
import Derived.Test.YtpfajohmofnkfaaGreatDoorYz
import Derived.Shelf.LaysM
import Derived.Shelf.Strconv.Clone
set_option linter.all false
namespace Go.Proofs
open Go.Shelf
def Tryz.arz:Go.Shelf.Ren:=⟨fun|316=>240|n=>n,fun|9=>9|3=>3|4=>4|37=>22|0=>0|127=>303|5=>5|n=>n,fun|n=>n⟩
def Tryz.ary:Go.Proofs.LaysM.n316 Tryz.prog Tryz.arz:={
 mixed:=Zk
 f316:=Tryz.func240.trans (congrArg some Zk)
 t0:=Tryz.underlying0
 a0:=Tryz.isAgg0
 z0:=Tryz.sizeOf0
 v0:=Tryz.zeroValue0
 t3:=Tryz.underlying3
 a3:=Tryz.isAgg3
 z3:=Tryz.sizeOf3
 v3:=Tryz.zeroValue3
 t4:=Tryz.underlying4
 a4:=Tryz.isAgg4
 z4:=Tryz.sizeOf4
 v4:=Tryz.zeroValue4
 t9:=Tryz.underlying9
 a9:=Tryz.isAgg9
 z9:=Tryz.sizeOf9
 v9:=Tryz.zeroValue9
 t37:=Tryz.underlying22
 a37:=Tryz.isAgg22
 z37:=Tryz.sizeOf22
 v37:=Tryz.zeroValue22
 t127:=Tryz.underlying303
 a127:=Tryz.isAgg303
 z127:=Tryz.sizeOf303
 v127:=Tryz.zeroValue303
 t5:=Tryz.underlying5
 a5:=Tryz.isAgg5
 z5:=Tryz.sizeOf5
 v5:=Tryz.zeroValue5
 i0:=Zk
 i3:=Zk
 i4:=Zk
 i5:=Zk
 i9:=Zk
 i37:=Zk
 i127:=by kernel_rfl}
open Go.RowKit in
def Tryz.stringslite_Clone(s:ByteArray)(w:World)(oJ:s.size<=281474976710656):
 Calls Tryz.prog 240 #[.string s] w λF bV=>F= .returned (.string s)/\Below w.heap.size w bV:=Any.stringslite_Clone Tryz.ary s w oJ
end Go.Proofs

