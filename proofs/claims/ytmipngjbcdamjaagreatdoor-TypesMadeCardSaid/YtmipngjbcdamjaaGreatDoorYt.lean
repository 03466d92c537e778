/- Part of the proof of the last text; no conditions -/
import Derived.Test.YtmipngjbcdamjaaGreatDoorYs
import Derived.Shelf.LaysM
import Derived.Shelf.Strconv.Clone
set_option maxHeartbeats 8000000
set_option linter.all false
namespace Go.Proofs.YtmipngjbcdamjaaGreatDoor
open Go.Q
noncomputable section
set_option maxRecDepth 100000 in
def JRb:(ek.drop 12).all AA=true:=Zk
def JR:ek.all AA=true:=by rw[<-List.take_append_drop 12 ek,List.all_append,JRa,JRb];rfl
def JU{s:List Nat}(e:s∈ek):g5 oq 1000000 85 [.str s]=some (.bool (c4 s)):=by
 have a:=Yy.1 JR s e
 unfold AA at a
 split at a
 ·rename_i b Y
  rw[Y,eq_of_beq a]
 ·cases a
def DP:∀x∈fF,g5 oq 1000000 x.1 x.2.1=some x.2.2:=by
 intro x a
 rcases Zz.1 a with rfl|a
 ·exact K7
 ·rcases Zr.1 a with a|a
  ·obtain⟨s,b,rfl⟩:=ZB.1 a
   exact If b
  ·obtain⟨s,b,rfl⟩:=ZB.1 a
   exact JU b
def he:Nat->List q->Option q:=hr (λ_ _=>none) fF
def yM(s:List Nat):Bool:=match js 41 [.str s] fF with|some (.bool b)=>b==c4 s|_=>false
set_option maxRecDepth 100000 in
def Ie:ek.all yM=true:=Zk
def Ic{s:List Nat}(e:s∈ek):he 41 [.str s]=some (.bool (c4 s)):=by
 have a:=Yy.1 Ie s e
 unfold yM at a
 unfold he hr
 split at a
 ·rename_i b Y
  rw[Y,eq_of_beq a]
 ·cases a
def AB(s:List Nat):Bool:=match js 85 [.str s] fF with|some (.bool b)=>b==c4 s|_=>false
set_option maxRecDepth 100000 in
def JT:ek.all AB=true:=Zk
def JS{s:List Nat}(e:s∈ek):he 85 [.str s]=some (.bool (c4 s)):=by
 have a:=Yy.1 JT s e
 unfold AB at a
 unfold he hr
 split at a
 ·rename_i b Y
  rw[Y,eq_of_beq a]
 ·cases a
def K6:he 10 []=some (.bool true):=by unfold he hr fF;rfl
def Hd{f:Nat}{a:List q}:∀{h:List (Nat×List q×q)},(∀x∈h,f≠x.1)->js f a h=none:=by
 intro h
 induction h with
 |nil=>intro _;rfl
 |cons x h U=>
  intro e
  obtain⟨g,i,v⟩:=x
  have b:¬f=g:=e _ (Zl ..)
  simp only[js,d2,b,ZM]
  exact U λd c=>e d (Zi _ c)
def Bs(f:Nat)(h:List q)(e:g1 f=false):he f h=none:=by
 have b:f≠10/\f≠41/\f≠85:=by refine⟨λj=> ?_,λj=> ?_,λj=> ?_⟩<;>(subst j;cases e)
 unfold he hr
 rw[Hd λx a=> ?_]
 rcases Zz.1 a with rfl|a
 ·exact b.1
 ·rcases Zr.1 a with a|a
  ·obtain⟨s,c,rfl⟩:=ZB.1 a
   exact b.2.1
  ·obtain⟨s,c,rfl⟩:=ZB.1 a
   exact b.2.2
end
end Go.Proofs.YtmipngjbcdamjaaGreatDoor

namespace Go.Proofs
open Go.Shelf
def Tryz.HA:Go.Shelf.Ren:=⟨fun|316=>173|n=>n,fun|9=>9|3=>3|4=>4|37=>147|0=>0|127=>268|5=>5|n=>n,fun|n=>n⟩
def Tryz.Hz:Go.Proofs.LaysM.n316 Tryz.prog Tryz.HA:={
 mixed:=Zk
 f316:=Tryz.func173.trans (congrArg some Zk)
 t0:=Tryz.underlying0
 a0:=Tryz.isAgg0
 z0:=Tryz.sizeOf0
 v0:=Tryz.zeroValue0
 t3:=Tryz.underlying3
 a3:=Tryz.isAgg3
 z3:=Tryz.sizeOf3
 v3:=Tryz.zeroValue3
 t4:=Tryz.underlying4
 a4:=Tryz.isAgg4
 z4:=Tryz.sizeOf4
 v4:=Tryz.zeroValue4
 t9:=Tryz.underlying9
 a9:=Tryz.isAgg9
 z9:=Tryz.sizeOf9
 v9:=Tryz.zeroValue9
 t37:=Tryz.underlying147
 a37:=Tryz.isAgg147
 z37:=Tryz.sizeOf147
 v37:=Tryz.zeroValue147
 t127:=Tryz.underlying268
 a127:=Tryz.isAgg268
 z127:=Tryz.sizeOf268
 v127:=Tryz.zeroValue268
 t5:=Tryz.underlying5
 a5:=Tryz.isAgg5
 z5:=Tryz.sizeOf5
 v5:=Tryz.zeroValue5
 i0:=Zk
 i3:=Zk
 i4:=Zk
 i5:=Zk
 i9:=Zk
 i37:=Zk
 i127:=by kernel_rfl}
open Go.RowKit in
def Tryz.stringslite_Clone(s:ByteArray)(w:World)(a:s.size<=281474976710656):
 Calls Tryz.prog 173 #[.string s] w λj aK=>j= .returned (.string s)/\Below w.heap.size w aK:=Any.stringslite_Clone Tryz.Hz s w a
end Go.Proofs

