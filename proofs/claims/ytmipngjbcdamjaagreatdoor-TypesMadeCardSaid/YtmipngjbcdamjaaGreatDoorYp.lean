/- Part of the proof of the last text; no conditions -/
import Derived.Test.YtmipngjbcdamjaaGreatDoorYo
set_option maxHeartbeats 8000000
set_option linter.all false
namespace Go.Proofs.YtmipngjbcdamjaaGreatDoor
open Go.Q
noncomputable section
def fs:Nat->List q->Option q:=qk 173 (oW 175)
def oo:ax:=⟨Tryz.prog,dC,22,fs,Tryz.prog.globals.size⟩
set_option maxRecDepth 100000 in
def La:g5 oo 10000000 29 [.str [98,111,111,108], .str [97,32,43,32,49,117,56,32,61,32,97]]=some (.tuple [.str [98,111,111,108], .agg [.int .i64 0, .int .i64 0]]):=Zk
set_option maxRecDepth 100000 in
def Lb:g5 oo 10000000 29 [.str [105,52], .str [105,52,40,97,41]]=some (.tuple [.str [105,52], .agg [.int .i64 0, .int .i64 0]]):=Zk
set_option maxRecDepth 100000 in
def Lc:g5 oo 10000000 29 [.str [117,56], .str [97,32,43,32,49,105,56]]=some (.tuple [.str [], .agg [.int .i64 26, .int .i64 4]]):=Zk
set_option maxRecDepth 100000 in
def Ld:g5 oo 10000000 29 [.str [98,111,111,108], .str [98,111,111,108,40,97,41]]=some (.tuple [.str [], .agg [.int .i64 26, .int .i64 2]]):=Zk
set_option maxRecDepth 100000 in
def Le:g5 oo 10000000 29 [.str [117,56], .str [105,102,32,97,32,116,104,101,110,32,97,32,101,108,115,101,32,97]]=some (.tuple [.str [], .agg [.int .i64 26, .int .i64 2]]):=Zk
set_option maxRecDepth 100000 in
def Lf:g5 oo 10000000 29 [.str [117,55], .str [97]]=some (.tuple [.str [], .agg [.int .i64 26, .int .i64 0]]):=Zk
def iL:List (Nat×List q×q):=[(29,[.str [98,111,111,108], .str [97,32,43,32,49,117,56,32,61,32,97]], .tuple [.str [98,111,111,108], .agg [.int .i64 0, .int .i64 0]]),(29,[.str [105,52], .str [105,52,40,97,41]], .tuple [.str [105,52], .agg [.int .i64 0, .int .i64 0]]),(29,[.str [117,56], .str [97,32,43,32,49,105,56]], .tuple [.str [], .agg [.int .i64 26, .int .i64 4]]),(29,[.str [98,111,111,108], .str [98,111,111,108,40,97,41]], .tuple [.str [], .agg [.int .i64 26, .int .i64 2]]),(29,[.str [117,56], .str [105,102,32,97,32,116,104,101,110,32,97,32,101,108,115,101,32,97]], .tuple [.str [], .agg [.int .i64 26, .int .i64 2]]),(29,[.str [117,55], .str [97]], .tuple [.str [], .agg [.int .i64 26, .int .i64 0]])]
def eN:Nat->List q->Option q:=uH [29] fs iL
def oq:ax:=⟨Tryz.prog,dC,22,eN,Tryz.prog.globals.size⟩
set_option maxRecDepth 100000 in
def K7:g5 oq 1000000 10 []=some (.bool true):=Zk
def fF:List (Nat×List q×q):=(10,[], .bool true)::((ek.map λs=>(41,[.str s], .bool (c4 s)))++ek.map λs=>(85,[.str s], .bool (c4 s)))
def yL(s:List Nat):Bool:=match g5 oq 1000000 41 [.str s]with|some (.bool b)=>b==c4 s|_=>false
set_option maxRecDepth 100000 in
def Ib:ek.all yL=true:=Zk
def If{s:List Nat}(e:s∈ek):g5 oq 1000000 41 [.str s]=some (.bool (c4 s)):=by
 have a:=Yy.1 Ib s e
 unfold yL at a
 split at a
 ·rename_i b Y
  rw[Y,eq_of_beq a]
 ·cases a
end
end Go.Proofs.YtmipngjbcdamjaaGreatDoor
