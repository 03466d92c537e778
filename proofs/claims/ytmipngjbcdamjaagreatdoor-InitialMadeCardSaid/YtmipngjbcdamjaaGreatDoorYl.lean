/- Part of the proof of the last text; no conditions -/
import Derived.Test.YtmipngjbcdamjaaGreatDoorYi
set_option maxHeartbeats 8000000
set_option linter.all false
namespace Go.Proofs.YtmipngjbcdamjaaGreatDoor
open Go.S
noncomputable section
def yK(s:List Nat):Bool:=match gP ou 1000000 41 [.str s]with|some (.bool b)=>b==c7 s|_=>false
set_option maxRecDepth 100000 in
def H8:d8.all yK=true:=Zk
def Ib{s:List Nat}(e:s∈d8):gP ou 1000000 41 [.str s]=some (.bool (c7 s)):=by
 have a:=Yy.1 H8 s e
 unfold yK at a
 split at a
 ·rename_i b ab
  rw[ab,eq_of_beq a]
 ·cases a
end
end Go.Proofs.YtmipngjbcdamjaaGreatDoor

