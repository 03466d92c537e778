/- Part of the proof of the last text; no conditions -/
import Derived.Test.YtmipngjbcdamjaaGreatDoorYm
set_option maxHeartbeats 8000000
set_option linter.all false
namespace Go.Proofs.YtmipngjbcdamjaaGreatDoor
open Go.S
noncomputable section
set_option maxRecDepth 100000 in
def JQ:(d8.drop 12).all sp=true:=Zk
def JP:d8.all sp=true:=by rw[<-List.take_append_drop 12 d8,List.all_append,JO,JQ];rfl
def JT{s:List Nat}(e:s∈d8):gP ou 1000000 85 [.str s]=some (.bool (c7 s)):=by
 have a:=Yy.1 JP s e
 unfold sp at a
 split at a
 ·rename_i b ab
  rw[ab,eq_of_beq a]
 ·cases a
end
end Go.Proofs.YtmipngjbcdamjaaGreatDoor

