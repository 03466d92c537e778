/- Part of the proof of the last text; no conditions -/
import GoSem.Step
import Derived.Below
import Derived.ChangeKeysEq
import Derived.Laws.IdiomCopy
import Derived.Laws.Unary
import Derived.Laws.Wrap64
import Derived.Laws.StructEq
import Derived.KernelRfl
set_option maxHeartbeats 8000000
set_option linter.all false
namespace Go
def Zo{p:Prop}(h:p:=by omega):p:=h
def Za{p q:Prop}(a:p)(b:q):p/\q:=⟨a,b⟩
def Zd{p:Prop}(h:p:=by decide):p:=h
def Zs{p:Prop}(h:p:=by simp):p:=h
def Zx{p:Prop}(h:p:=by simp;omega):p:=h
def Zk{p:Prop}(h:p:=by kernel_rfl):p:=h
def Zb:type_of%@List.getElem?_eq_getElem:=@List.getElem?_eq_getElem
def Zc:type_of%@decide_eq_false_iff_not:=@decide_eq_false_iff_not
def Ze:type_of%@List.getElem?_eq_some_iff:=@List.getElem?_eq_some_iff
def Zf:type_of%@decide_eq_true_eq:=@decide_eq_true_eq
def Zg:type_of%@Nat.le_refl:=@Nat.le_refl
def Zh:type_of%@Option.some.injEq:=@Option.some.injEq
def Zi:type_of%@if_neg:=@if_neg
def Zj:type_of%@List.length_map:=@List.length_map
def Zl:type_of%@List.mem_of_getElem?:=@List.mem_of_getElem?
def Zn:type_of%@Nat.eq_of_beq_eq_true:=@Nat.eq_of_beq_eq_true
def Zp:type_of%@List.mem_append:=@List.mem_append
def Zq:type_of%@List.mem_cons:=@List.mem_cons
def Zr:type_of%@List.mem_cons_self:=@List.mem_cons_self
def Zt:type_of%@List.getElem?_map:=@List.getElem?_map
def Zu:type_of%@Bool.and_eq_true:=@Bool.and_eq_true
def Zv:type_of%@if_pos:=@if_pos
def Zw:type_of%@List.mem_cons_of_mem:=@List.mem_cons_of_mem
def Zy:type_of%@List.take_of_length_le:=@List.take_of_length_le
def Zz:type_of%@List.drop_eq_getElem_cons:=@List.drop_eq_getElem_cons
def ZA:type_of%@Bool.false_eq_true:=@Bool.false_eq_true
def ZB:type_of%@List.mem_singleton:=@List.mem_singleton
def ZC:type_of%@List.mem_map:=@List.mem_map
def ZD:type_of%@List.take_add_one:=@List.take_add_one
def ZE:type_of%@Nat.le_trans:=@Nat.le_trans
def ZF:type_of%@Nat.mul_one:=@Nat.mul_one
def ZG:type_of%@List.map_cons:=@List.map_cons
def ZH:type_of%@List.length_append:=@List.length_append
def ZI:type_of%@List.length_cons:=@List.length_cons
def ZJ:type_of%@if_false:=@if_false
def ZK:type_of%@Nat.zero_add:=@Nat.zero_add
def ZL:type_of%@if_true:=@if_true
def ZM:type_of%@List.drop_eq_nil_of_le:=@List.drop_eq_nil_of_le
def ZN:type_of%@Nat.add_zero:=@Nat.add_zero
def ZO:type_of%@not_false_eq_true:=@not_false_eq_true
def ZP:type_of%@List.length_pos_iff:=@List.length_pos_iff
def ZQ:type_of%@List.getElem?_append_left:=@List.getElem?_append_left
def ZR:type_of%@List.not_mem_nil:=@List.not_mem_nil
def ZS:type_of%@List.eq_nil_of_length_eq_zero:=@List.eq_nil_of_length_eq_zero
def ZT:type_of%@List.length_nil:=@List.length_nil
def ZU:type_of%@List.map_append:=@List.map_append
def ZV:type_of%@Nat.lt_of_lt_of_le:=@Nat.lt_of_lt_of_le
def ZW:type_of%@List.getElem?_append_right:=@List.getElem?_append_right
def ZX:type_of%@Option.map_some:=@Option.map_some
def ZY:type_of%@List.append_nil:=@List.append_nil
def ZZ:type_of%@Bool.and_self:=@Bool.and_self
def Z0:type_of%@Option.bind_eq_some_iff:=@Option.bind_eq_some_iff
def Z1:type_of%@List.mem_iff_getElem?:=@List.mem_iff_getElem?
def Z2:type_of%@Array.getElem?_toList:=@Array.getElem?_toList
def Z3:type_of%@Option.isSome_none:=@Option.isSome_none
def Z4:type_of%@Option.isSome_some:=@Option.isSome_some
def Z5:type_of%@Option.bind_some:=@Option.bind_some
def Z6:type_of%@List.foldl_cons:=@List.foldl_cons
def Z7:type_of%@Array.getElem?_eq_some_iff:=@Array.getElem?_eq_some_iff
def Z8:type_of%@List.take_zero:=@List.take_zero
def Z9:type_of%@List.getElem?_cons_zero:=@List.getElem?_cons_zero
def Ya:type_of%@List.map_map:=@List.map_map
def Yb:type_of%@Nat.le_succ:=@Nat.le_succ
def Yc:type_of%@List.pairwise_cons:=@List.pairwise_cons
def Yd:type_of%@List.getElem?_cons_succ:=@List.getElem?_cons_succ
def Ye:type_of%@Nat.add_assoc:=@Nat.add_assoc
def Yf:type_of%@List.take_succ_cons:=@List.take_succ_cons
def Yg:type_of%@Classical.byContradiction:=@Classical.byContradiction
def Yh:type_of%@Bool.eq_iff_iff:=@Bool.eq_iff_iff
def Yi:type_of%@List.size_toArray:=@List.size_toArray
def Yj:type_of%@Nat.add_mul:=@Nat.add_mul
def Yk:type_of%@List.drop_zero:=@List.drop_zero
def Yl:type_of%@Int.eq_ofNat_of_zero_le:=@Int.eq_ofNat_of_zero_le
def Ym:type_of%@and_true:=@and_true
def Yn:type_of%@Option.map_eq_some_iff:=@Option.map_eq_some_iff
def Yo:type_of%@decide_false:=@decide_false
def Yp:type_of%@List.mem_filter:=@List.mem_filter
def Yq:type_of%@List.nil_append:=@List.nil_append
def Yr:type_of%@Nat.lt_succ_self:=@Nat.lt_succ_self
def Ys:type_of%@List.map_congr_left:=@List.map_congr_left
def Yt:type_of%@List.getElem?_eq_none:=@List.getElem?_eq_none
def Yu:type_of%@Array.getElem?_append_left:=@Array.getElem?_append_left
def Yv:type_of%@List.getElem?_of_mem:=@List.getElem?_of_mem
def Yw:type_of%@List.cons_append:=@List.cons_append
def Yx:type_of%@List.take_length:=@List.take_length
def Yy:type_of%@or_false:=@or_false
def Yz:type_of%@List.drop_succ_cons:=@List.drop_succ_cons
def YA:type_of%@List.flatten_cons:=@List.flatten_cons
def YB:type_of%@List.nodup_append:=@List.nodup_append
def YC:type_of%@List.nodup_cons:=@List.nodup_cons
def YD:type_of%@List.set_cons_zero:=@List.set_cons_zero
def YE:type_of%@List.set_cons_succ:=@List.set_cons_succ
def YF:type_of%@Option.getD_some:=@Option.getD_some
def YG:type_of%@decide_true:=@decide_true
def YH:type_of%@List.length_drop:=@List.length_drop
def YI:type_of%@List.length_take:=@List.length_take
def YJ:type_of%@Bool.and_true:=@Bool.and_true
def YK:type_of%@Bool.not_false:=@Bool.not_false
def YL:type_of%@beq_self_eq_true:=@beq_self_eq_true
def YM:type_of%@List.filter_cons:=@List.filter_cons
def YN:type_of%@Bool.not_true:=@Bool.not_true
def YO:type_of%@List.take_append_of_le_length:=@List.take_append_of_le_length
def YP:type_of%@List.length_eq_zero_iff:=@List.length_eq_zero_iff
def YQ:type_of%@Array.size_append:=@Array.size_append
def YR:type_of%@List.flatMap_cons:=@List.flatMap_cons
def YS:type_of%@Option.bind_assoc:=@Option.bind_assoc
def YT:type_of%@not_or:=@not_or
def YU:type_of%@List.mem_map_of_mem:=@List.mem_map_of_mem
def YV:type_of%@List.takeWhile_cons:=@List.takeWhile_cons
def YW:type_of%@Nat.beq_refl:=@Nat.beq_refl
def YX:type_of%@Prod.mk.injEq:=@Prod.mk.injEq
def YY:type_of%@List.getElem_mem:=@List.getElem_mem
def YZ:type_of%@Nat.eq_of_mul_eq_mul_right:=@Nat.eq_of_mul_eq_mul_right
def Y0:type_of%@List.getElem?_take:=@List.getElem?_take
def Y1:type_of%@List.getD_eq_getElem?_getD:=@List.getD_eq_getElem?_getD
def Y2:type_of%@List.length_singleton:=@List.length_singleton
def Y3:type_of%@Array.getElem?_eq_getElem:=@Array.getElem?_eq_getElem
def Y4:type_of%@List.pairwise_iff_getElem:=@List.pairwise_iff_getElem
def Y5:type_of%@Bool.or_eq_true:=@Bool.or_eq_true
def Y6:type_of%@Option.some.inj:=@Option.some.inj
def Y7:type_of%@List.ext_getElem?:=@List.ext_getElem?
def Y8:type_of%@List.foldl_append:=@List.foldl_append
def Y9:type_of%@List.getElem?_set:=@List.getElem?_set
def za:type_of%@List.getElem?_inj:=@List.getElem?_inj
def zb:type_of%@List.getElem?_take_of_lt:=@List.getElem?_take_of_lt
def zc:type_of%@Nat.mod_eq_of_lt:=@Nat.mod_eq_of_lt
def zd:type_of%@List.mem_flatMap:=@List.mem_flatMap
def ze:type_of%@Nat.le_mul_of_pos_right:=@Nat.le_mul_of_pos_right
def zf:type_of%@Nat.sub_zero:=@Nat.sub_zero
def zg:type_of%@List.getElem?_drop:=@List.getElem?_drop
def zh:type_of%@Option.map_none:=@Option.map_none
def zi:type_of%@List.find?_cons:=@List.find?_cons
def zj:type_of%@List.getElem?_toArray:=@List.getElem?_toArray
def zk:type_of%@Nat.le_div_iff_mul_le:=@Nat.le_div_iff_mul_le
def zl:type_of%@Array.mem_of_getElem?:=@Array.mem_of_getElem?
def zm:type_of%@Int.emod_eq_of_lt:=@Int.emod_eq_of_lt
def zn:type_of%@List.mem_of_mem_drop:=@List.mem_of_mem_drop
def zo:type_of%@List.mem_of_mem_take:=@List.mem_of_mem_take
def zp:type_of%@List.pairwise_append:=@List.pairwise_append
def zq:type_of%@Nat.le_of_eq:=@Nat.le_of_eq
def zr:type_of%@List.all_eq_true:=@List.all_eq_true
def zs:type_of%@Nat.le_add_right:=@Nat.le_add_right
def zt:type_of%@Nat.lt_or_ge:=@Nat.lt_or_ge
def zu:type_of%@Nat.zero_mul:=@Nat.zero_mul
def zv:type_of%@List.set_nil:=@List.set_nil
def zw:type_of%@List.filter_toArray:=@List.filter_toArray
def zx:type_of%@List.flatten_append:=@List.flatten_append
def zy:type_of%@List.cons.injEq:=@List.cons.injEq
def zz:type_of%@beq_iff_eq:=@beq_iff_eq
def zA:type_of%@List.find?_eq_none:=@List.find?_eq_none
def zB:type_of%@Nat.zero_le:=@Nat.zero_le
def zC:type_of%@Int.le_refl:=@Int.le_refl
def zD:type_of%@Nat.mul_comm:=@Nat.mul_comm
def zE:type_of%@List.drop_drop:=@List.drop_drop
def zF:type_of%@Nat.le_of_lt:=@Nat.le_of_lt
def zG:type_of%@Nat.lt_trichotomy:=@Nat.lt_trichotomy
def zH:type_of%@Nat.not_lt:=@Nat.not_lt
def zI:type_of%@Nat.div_one:=@Nat.div_one
def zJ:type_of%@true_and:=@true_and
def zK:type_of%@and_self:=@and_self
def zL{p q:Prop}(a:q)(h:q->p:=by intro h;omega):p:=h a
def zM(a b:Nat)(h:b<=a:=by omega):decide ((a:Int)<(b:Int))=false:=decide_eq_false (by omega)
def zN(a b:Nat)(h:a<b:=by omega):decide ((a:Int)<(b:Int))=true:=decide_eq_true (by omega)
def zO{α:Type}(l:List α)(i:Nat)(h:i<l.length:=by omega):∃x,l[i]? =some x:=⟨_,List.getElem?_eq_getElem h⟩
def zY{p:Prop}(h:p:=by intro x y z a;obtain⟨H,a,_⟩:=a;cases a):p:=h
def zZ{p:Prop}(h:p:=by intro x y z a;obtain⟨E,H,a,_⟩:=a;cases a):p:=h
def z1{p:Prop}(h:p:=by simp only[Zf];omega):p:=h
def z2{p:Prop}(h:p:=by simp only[Zc];omega):p:=h
end Go
namespace Go.aF
noncomputable section
inductive E(α:Type) where
 |nil|node (v:Option α) (l r:E α)
 deriving Inhabited
universe R
def ba{α:Type R}(c:Bool)(t e:α):α:=Bool.rec (motive:=λ_=>α) e t c
def E.get{α:Type}(t:E α):Nat->Option α:=
 E.rec (motive:=λ_=>Nat->Option α) (λ_=>none)
  (λv _ _ a b i=>Nat.rec (motive:=λ_=>Option α) v (λj _=>ba (Nat.beq (Nat.mod j 2) 0) (a (Nat.div j 2)) (b (Nat.div j 2))) i) t
def fB{α cr:Type}(t:E α)(k:E α->cr):cr:=
 E.rec (motive:=λ_=>cr) (k .nil) (λv l r _ _=>k (.node v l r)) t
def E.kH{α:Type}(f:Nat):E α->Nat->Option α->E α:=
 Nat.rec (motive:=λ_=>E α->Nat->Option α->E α) (λt _ _=>t)
  (λ_ U t i a=>E.rec (motive:=λ_=>E α)
   (Nat.rec (motive:=λ_=>E α) (.node a .nil .nil) (λj _=>ba (Nat.beq (Nat.mod j 2) 0)
    (fB (U .nil (Nat.div j 2) a) λb=> .node none b .nil) (fB (U .nil (Nat.div j 2) a) λc=> .node none .nil c)) i)
   (λv l r _ _=>Nat.rec (motive:=λ_=>E α) (.node a l r) (λj _=>ba (Nat.beq (Nat.mod j 2) 0)
    (fB (U l (Nat.div j 2) a) λb=> .node v b r) (fB (U r (Nat.div j 2) a) λc=> .node v l c)) i) t) f
def kw{cr:Type}(n:Nat)(k:Nat->cr):cr:=Nat.rec (motive:=λ_=>cr) (k 0) (λm _=>k (Nat.succ m)) n
def Ar{cr:Type}(n:Int)(k:Int->cr):cr:=
 Int.rec (motive:=λ_=>cr) (λm=>kw m λm=>k (.ofNat m)) (λm=>kw m λm=>k (.negSucc m)) n
def cL{α:Type}(l:List (Nat×α)):Nat->Option α:=
 List.rec (motive:=λ_=>Nat->Option α) (λ_=>none) (λp _ U j=>Prod.rec (motive:=λ_=>Option α) (λa b=>ba (Nat.beq a j) (some b) (U j)) p) l
def E.set{α:Type}(t:E α)(i:Nat)(a:Option α):E α:=E.kH (i+1) t i a
def E.ofList{α:Type}:List α->Nat->E α->E α
 |[],_,t=>t|a::l,i,t=>fB (t.set i (some a)) λeu=>ofList l (i+1) eu
def E.gs{α:Type}(t:E α):Nat->Nat->Option (List α)
 |_,0=>some []|I,n+1=>match t.get I with
  |none=>none|some a=>match gs t (I+1) n with
   |none=>none|some l=>some (a::l)
def kF{α:Type}(l:List α):Nat->Option α:=
 List.rec (motive:=λ_=>Nat->Option α) (λ_=>none) (λa _ U i=>Nat.rec (motive:=λ_=>Option α) (some a) (λj _=>U j) i) l
inductive z where
 |bool (b:Bool)|int (k:IntKind) (n:Int)|str (s:List Nat)|ptr (b I:Nat)|bH|slice (b I len cap:Nat)|cq (b I len aN:Nat)|ax|map (m:Nat)|gO|func (fn:Fn) (first a:List z)|nilFunc|iface (t:Nat) (v:z)|nilIface|agg (cs:List z)|tuple (aG:List z)|gf (b I l aN:Nat)
 deriving Inhabited
def z.cells:z->List z
 | .agg cs=>cs|v=>[v]
def undef:z:=.tuple []
def qX{α cr:Type}(f:α->Option cr):List α->Option (List cr)
 |[]=>some []|a::l=>match f a with
  |none=>none|some b=>match qX f l with
   |none=>none|some r=>some (b::r)
def pu:Nat->Value->Option z
 |0,_=>none|n+1,v=>match v with
  | .bool b=>some (.bool b)| .int k n=>some (.int k n)| .string s=>some (.str (s.data.toList.map (·.toNat)))| .pointer none=>some .bH| .slice none 0 0=>some .ax| .map none=>some .gO| .func (.func f) ⟨[]⟩ ⟨[]⟩=>some (.func (.func f) [] [])| .nilFunc=>some .nilFunc| .iface t v=>match pu n v with|some a=>some (.iface t a)|none=>none
  | .nilIface=>some .nilIface| .agg cs=>match qX (pu n) cs.toList with|some l=>some (.agg l)|none=>none
  | .tuple cs=>match qX (pu n) cs.toList with|some l=>some (.tuple l)|none=>none
  |_=>none
def ra(v:Value):Option z:=pu 20 v
inductive x3 where
 |fn (fn:Fn) (a:List z)|collected (r:Nat)
structure eD where
 target:x3
 args:List z
inductive iu where
 |own|marked|grow (b3:List Nat)|fG
 deriving Inhabited
inductive S where
 |cells (c:E z) (size:Nat) (st:iu)|map (a:List (z×z×Nat)) (bz:Nat)|look (a:List (z×z))|iH (s:List Nat) (pos:Nat)|fD (m:Option Nat) (b:Nat) (seen:List Nat) (f:Nat)|qZ (m b n:Nat) (bC:List Nat) (st:Nat) (e:Option Nat)|loop (state:LoopState) (pending:Option Code) (fn:Nat) (n ac:Nat) (B:E z) (params:List Nat) (assign body:Code) (defers:Nat)|deferred (d:Option (List eD))
structure al where
 P:Program
 G:E S
 aB:Nat
 eC:Nat->List z->Option z
 i2:Nat
def H(C:al)(q:E S)(b:Nat):Option S:=
 ba (Nat.blt b C.aB) (C.G.get b) (q.get (Nat.sub b C.aB))
def aH(C:al)(q:E S)(b:Nat)(I:Option S):E S:=q.set (Nat.sub b C.aB) I
def eB(C:al)(b:Nat):Bool:=Nat.ble C.aB b
structure kK where
 v:z
 recovered:Bool
inductive gA where
 |run|returning|panicking (chain:List kK)
inductive gh where
 |v (j:Nat)|t (n:Nat)|c (a:z)
inductive fT where
 |q0 (x:gh)|pick (c a b:gh)|dn (a:gh)|ph (n:Nat) (a:gh)|off (d:Nat) (x:gh)|pc (n aN:Nat) (x i:gh)|pd (aN:Nat) (x i:gh)|q5 (x:gh)|uy (op:BinOp) (x o:gh)|ext (i:Nat) (x:gh)|st (n:Nat) (a v:gh)|call (f:Nat) (args:List gh)|eP (bk:List (Nat×Nat)) (I:Op)|make (bk:List (Nat×Nat)) (I:Op)|db (bk:List (Nat×Nat)) (I:Op)
structure dd where
 i:Nat
 g:Option (Nat×Bool)
 op:fT
structure mK where
 lO:List dd
 Bz:List dd
 db:Option dd
inductive co where
 |code (c:Code)|inBlock (id:Nat)|inLoop (body:Code)|inScope (body:Code)|tm (ae:Array Oper) (ad:List (Nat×z)) (rest:List dd) (fin:List (Nat×Nat))|drawn (ae:Array Oper) (base:Nat) (ad:List (Nat×z)) (g1:List mK) (fin:List (Nat×Nat))|lu (ae:Array Oper) (ad:List (Nat×z)) (h:Nat) (rest:List dd) (fin:List (Nat×Nat))|od (ae:Array Oper) (base:Nat) (ad:List (Nat×z)) (h:Nat) (g1:List mK) (fin:List (Nat×Nat))|inRangeFunc (l:Nat)|endRangeFunc (l:Nat)|beginRound
structure d1 where
 fn:Nat
 n:Nat
 ac:Nat
 B:E z
 todo:List co
 defers:List eD
 mode:gA
 deferred:Bool
 roundOf:Option Nat
section ae
variable(C:al)
def fk(t:Nat):Option Nat:=match C.P.info? t with|some i=>some i.size|none=>none
def kg(t:Nat):Option z:=match C.P.info? t with|some i=>(match i.zero with|some v=>ra v|none=>none)|none=>none
def qJ(t:Nat):Option Bool:=match C.P.underlying t with
 |some (.struct _)=>some true|some (.array _ _)=>some true|some _=>some false|none=>none
def ih:List z->Nat->List z->List z
 |cs,_,[]=>cs|cs,I,v::l=>ih (cs.set I v) (I+1) l
def o1(a:Nat->Option (Nat×Nat)):List z->List (Nat×z)->Option (List z)
 |cells,[]=>some cells|cells,(i,v)::rest=>match a i with
  |none=>none|some (off,size)=>
   ba (Nat.beq v.cells.length size&&Nat.ble (off+size) cells.length) (o1 a (ih cells off v.cells) rest)<|none
def fj:Nat->List z->List z
 |0,_=>[]|n+1,aj=>aj++fj n aj
def nO(ab:Operand->Option z):List (Nat×Operand)->Option (List (Nat×z))
 |[]=>some []|(i,x)::l=>match ab x,nO ab l with|some v,some r=>some ((i,v)::r)|_,_=>none
def jZ(ab:Operand->Option z):List Operand->Option (List z)
 |[]=>some []|x::l=>match ab x,jZ ab l with|some v,some r=>some (v::r)|_,_=>none
def BX(a:List Field)(i:Nat):Option (Nat×Nat):=
 match kF a i with
 |some f=>(match fk C f.type with|some s=>some (f.offset,s)|none=>none)|none=>none
def xd:List Field->Bool
 |[]=>true|f::l=>(match fk C f.type with|some _=>true|none=>false)&&xd l
def vL(t:Nat)(b:List (Nat×z)):Option z:=
 match kg C t with
 |none=>none|some aj=>match C.P.underlying t with
  |some (.struct a)=>ba (xd C a.toList) (match o1 (BX C a.toList) aj.cells b with|some cs=>some (.agg cs)|none=>none) none|some (.array _ ct)=>(match fk C ct with
   |some s=>(match o1 (λi=>some (i*s,s)) aj.cells b with|some cs=>some (.agg cs)|none=>none)|none=>none)
  |_=>none
def p8(t:Nat)(cs:List z)(off:Nat):Option z:=
 match qJ C t,fk C t with
 |some true,some s=>some (.agg ((cs.drop off).take s))|some false,_=>kF cs off|_,_=>none
def hH:List Nat->List Nat->Bool
 |[],[]=>true|a::x,b::o=>Nat.beq a b&&hH x o|_,_=>false
def ps:List Nat->List Nat->Bool
 |_,[]=>false|[],_::_=>true|a::x,b::o=>Nat.blt a b||(Nat.beq a b&&ps x o)
def te(q:E S)(b I:Nat):Bool:=match H C q b with
 |some (.cells _ n .own)=>eB C b&&Nat.blt I n|_=>false
def pm(q:E S)(b I:Nat):Bool:=match H C q b with
 |some (.cells _ _ .fG)=>false|some (.cells _ n _)=>Nat.blt I n|_=>false
def ptrEq(q:E S)(b I a dG:Nat):Option Bool:=
 ba (Nat.beq b a) (some (Nat.beq I dG)) (ba (te C q b I&&pm C q a dG||te C q a dG&&pm C q b I) (some false) none)
def p6(eq:Nat->z->z->Option Bool):List Field->List z->List z->Option Bool
 |[],_,_=>some true|f::f0,c,d=>
  ba (f.name== "_") none<|
  match p8 C f.type c f.offset,p8 C f.type d f.offset with
  |some a,some b=>(match eq f.type a b with
   |some true=>p6 eq f0 c d|some false=>some false|none=>none)
  |_,_=>none
def iZ(k a:IntKind):Bool:=match k,a with
 | .i8,.i8=>true| .i16,.i16=>true| .i32,.i32=>true| .i64,.i64=>true
 | .u8,.u8=>true| .u16,.u16=>true| .u32,.u32=>true| .u64,.u64=>true
 |_,_=>false
def so(a b:Bool):Bool:=match a,b with|true,true=>true|false,false=>true|_,_=>false
def k9(x o:Int):Bool:=match x,o with
 | .ofNat a,.ofNat b=>Nat.beq a b| .negSucc a,.negSucc b=>Nat.beq a b|_,_=>false
def m3(x o:Int):Bool:=match x,o with
 | .ofNat a,.ofNat b=>Nat.blt a b| .negSucc a,.negSucc b=>Nat.blt b a| .negSucc _,.ofNat _=>true| .ofNat _,.negSucc _=>false
def gn(q:E S):Nat->Nat->z->z->Option Bool
 |0,_,_,_=>none|d+1,t,x,o=>
  match C.P.underlying t,x,o with
  |some .bool,.bool a,.bool b=>some (so a b)|some (.int _),.int k a,.int h b=>ba (iZ k h) (some (k9 a b)) none|some .string,.str a,.str b=>some (hH a b)|some (.pointer _),.bH,.bH=>some true|some (.pointer _),.bH,.ptr _ _=>some false|some (.pointer _),.ptr _ _,.bH=>some false|some (.pointer e),.ptr b I,.ptr f dG=>
   (
    match fk C e with
    |some s=>ba (Nat.beq s 0) none (ptrEq C q b I f dG)|none=>none)
  |some (.interface _),.nilIface,.nilIface=>some true|some (.interface _),.nilIface,.iface _ _=>some false|some (.interface _),.iface _ _,.nilIface=>some false|some (.interface _),.iface c vh,.iface ty j=>ba (Nat.beq c ty) (match C.P.info? c with
   |some i=>ba i.comparable (gn q d c vh j) none|none=>none) (some false)
  |some (.slice _),.ax,.ax=>some true|some (.slice _),.ax,.slice .. =>some false|some (.slice _),.ax,.cq .. =>some false|some (.slice _),.slice ..,.ax=>some false|some (.slice _),.cq ..,.ax=>some false|some (.map _ _),.gO,.gO=>some true|some (.map _ _),.gO,.map _=>some false|some (.map _ _),.map _,.gO=>some false|some (.func _ _ _),.nilFunc,.nilFunc=>some true|some (.func _ _ _),.nilFunc,.func .. =>some false|some (.func _ _ _),.func ..,.nilFunc=>some false|some (.struct g),.agg l,.agg m=>ba (C.P.stoodInHeld t) none (p6 C (gn q d) g.toList l m)|_,_,_=>none
def iq(k:IntKind)(n:Int):Int:=
 match k with
 | .i64=>(λm:Int=>ba (decide (m<9223372036854775808)) m (m-18446744073709551616)) (n%18446744073709551616)| .u64=>n%18446744073709551616| .u8=>n%256|k=>k.wrap n
def hC(k:IntKind)(n:Int):Option z:=Ar n λn=>some (.int k n)
def gj(k:IntKind)(n:Int):Option z:=Ar (iq k n) λn=>some (.int k n)
def iR(b:Bool):Option z:=ba b (some (.bool true)) (some (.bool false))
def gH(op:BinOp):IntKind->Int->Int->Option z:=
 match op with
 | .add=>λk x o=>gj k (x+o)| .sub=>λk x o=>gj k (x-o)| .mul=>λk x o=>gj k (x*o)| .quo=>λk x o=>ba (k9 o 0) none (gj k (x.tdiv o))| .rem=>λk x o=>ba (k9 o 0) none (hC k (x.tmod o))| .and=>λk x o=>gj k ((BitVec.ofInt k.bits x&&& BitVec.ofInt k.bits o).toNat)| .or=>λk x o=>gj k ((BitVec.ofInt k.bits x|||BitVec.ofInt k.bits o).toNat)| .xor=>λk x o=>gj k ((BitVec.ofInt k.bits x^^^BitVec.ofInt k.bits o).toNat)| .andNot=>λk x o=>gj k ((BitVec.ofInt k.bits x&&& ~~~ BitVec.ofInt k.bits o).toNat)| .eql=>λ_ x o=>iR (k9 x o)| .neq=>λ_ x o=>iR (!k9 x o)| .lss=>λ_ x o=>iR (m3 x o)| .leq=>λ_ x o=>iR (!m3 o x)| .gtr=>λ_ x o=>iR (m3 o x)| .geq=>λ_ x o=>iR (!m3 x o)|_=>λ_ _ _=>none
def tN(op:BinOp)(k:IntKind)(x o:Int):Option z:=
 ba (m3 o 0) none
 (match op with
 | .shl=>gj k (x*2^(min o.toNat k.bits))| .shr=>hC k (x.fdiv (2^(min o.toNat k.bits)))|_=>none)
def gL(op:BinOp):Bool:=match op with| .shl| .shr=>true|_=>false
def oL(op:BinOp)(x o:List Nat):Option z:=
 match op with
 | .add=>ba (Nat.ble (x.length+o.length) 1000000000) (some (.str (x++o)))<|none
 | .eql=>iR (hH x o)| .neq=>iR (!hH x o)| .lss=>iR (ps x o)| .leq=>iR (ps x o||hH x o)| .gtr=>iR (!(ps x o||hH x o))| .geq=>iR (!ps x o)|_=>none
def aK(op:BinOp)(x o:z):Option z:=
 match x,o with
 | .int k a,.int c b=>ba (gL op) (tN op k a b) (ba (iZ k c) (gH op k a b) none)|_,_=>none
def sB(t:Nat)(a:Bool)(x o:z):Bool:=match x,o with
 | .nilIface,.nilIface=>a||(match C.P.underlying t with|some (.interface b)=>b.isEmpty|_=>false)
 | .agg _,.agg _=> !C.P.eqGuardType C.P.depth t|_,_=>true
def b7(q:E S)(op:BinOp)(t:Nat)(c:Bool)(x o:z):Option z:=
 match x,o with
 | .int k a,.int d b=>aK op (.int k a) (.int d b)| .str a,.str b=>oL op a b|x,o=>ba (sB C t c x o) (match op with
  | .eql=>(match gn C q 50 t x o with|some b=>iR b|none=>none)| .neq=>(match gn C q 50 t x o with|some b=>iR (!b)|none=>none)|_=>none) none
def dX(op:UnOp)(x:z):Option z:=
 match op,x with
 | .neg,.int k n=>gH .sub k 0 n| .xor,.int k n=>gH .xor k (if k.signed then -1 else k.max) n| .not,.bool b=>iR (!b)|_,_=>none
def yC(ab1 dst:Nat)(x:z):Option z:=
 match C.P.underlying ab1,C.P.underlying dst,x with
 |some _,some (.int k),.int _ n=>gj k n|some _,some .string,.str s=>some (.str s)|_,_,_=>none
def hc(v:z):Option Nat:=match v with| .int _ n=>(match n with| .ofNat n=>some n|_=>none)|_=>none
def ho(I:Option z)(m d:Nat):Option Nat:=match I with
 |some v=>(match hc v with|some n=>ba (Nat.ble n m) (some n)<|none|none=>none)|none=>some d
def fW(len cap:Nat)(aT ag a:Option z):Option (Nat×Nat×Nat):=
 match ho a cap cap with
 |none=>none|some m=>match (match ag,a with
   |none,some _=>none|ag,_=>ho ag m len)with
  |none=>none|some h=>match ho aT h 0 with
   |none=>none|some l=>some (l,h,m)
def py(ab:Operand->Option z):Option Operand->Option (Option z)
 |none=>some none|some x=>match ab x with|some v=>some (some v)|none=>none
def ii(q:E S)(b:Nat):Option Nat:=match H C q b with|some (.cells _ n (.grow _))=>some n|some (.cells _ n .fG)=>some n|_=>none
def vR(q:E S)(t:Nat)(x:z)(aT ag a:Option z):Option z:=
 match C.P.underlying t,x with
 |some .string,.str s=>(match a with
  |some _=>none|none=>(match fW s.length s.length aT ag none with
   |some (l,h,_)=>some (.str ((s.drop l).take (h-l)))|none=>none))
 |some (.slice ct),.slice b I len cap=>(match fW len cap aT ag a,fk C ct with
  |some (l,h,m),some aN=>some (.slice b (ba (Nat.beq m l) (I)<|I+l*aN) (h-l) (m-l))|_,_=>none)
 |some (.slice ct),.ax=>(match fW 0 0 aT ag a,fk C ct with
  |some _,some _=>some .ax|_,_=>none)
 |some (.slice ct),.cq b I len aN=>(match fk C ct,ii C q b with
  |some c,some n=>ba (Nat.beq aN c&&Nat.blt 0 aN) ((match fW len ((n-I)/aN) aT ag a with
    |some (l,h,m)=>(match a with
     |some _=>some (.slice b (ba (Nat.beq m l) (I)<|I+l*aN) (h-l) (m-l))|none=>ba (Nat.blt l ((n-I)/aN)||Nat.beq l 0) (some (.cq b (I+l*aN) (h-l) aN))<|ba (Nat.beq h l) (some (.gf b I l aN)) none)
    |none=>none))<|none
  |_,_=>none)
 |some (.array n ct),.ptr b I=>(match fW n n aT ag a,fk C ct with
  |some (l,h,m),some aN=>some (.slice b (ba (Nat.beq m l) (I)<|I+l*aN) (h-l) (m-l))|_,_=>none)
 |_,_=>none
def vO(t:Nat)(x i:z):Option z:=
 match hc i with
 |none=>none|some i=>match C.P.underlying t,x with
  |some (.array n ct),.agg cs=>(match fk C ct with|some aN=>ba (Nat.blt i n) (p8 C ct cs (i*aN))<|none|none=>none)|some .string,.str s=>(match kF s i with|some c=>some (.int .u8 (Int.ofNat c))|none=>none)|_,_=>none
def cellsOf(q:E S)(b:Nat):Option (E z):=match H C q b with
 |some (.cells c _ _)=>some c|_=>none
def ay(q:E S)(a:z):Option z:=
 match a with
 | .ptr b I=>(match cellsOf C q b with
   |some c=>c.get I|none=>none)
 |_=>none
def ca(q:E S)(n:Nat)(a:z):Option z:=
 match a with
 | .ptr b I=>(match cellsOf C q b with
   |some c=>(match c.gs I n with|some l=>some (.agg l)|none=>none)|none=>none)
 |_=>none
def g4(q:E S)(t:Nat)(a:z):Option z:=
 match qJ C t,fk C t with
 |some true,some s=>ca C q s a|some false,_=>ay C q a|_,_=>none
def hj:Nat->Nat->z->Bool
 |0,_,_=>false|n+1,t,v=>match C.P.underlying t,v with
  |some (.interface _),.iface d x=>(match C.P.info? d with|some i=>i.comparable&&hj n d x|none=>false)|some (.interface _),.nilIface=>true|some (.interface _),_=>false|some (.struct a),.agg cs=>a.toList.all λf=>f.name== "_"||(match p8 C f.type cs f.offset with|some p=>hj n f.type p|none=>false)
  |some (.struct _),_=>false|some (.array _ _),_=>false|some _,_=>true|none,_=>false
def hS:Nat->z->z->Bool
 |0,_,_=>false|n+1,x,o=>match x,o with
  | .bool a,.bool b=>so a b| .int k a,.int d b=>iZ k d&&k9 a b| .str a,.str b=>hH a b| .ptr b I,.ptr c dG=>Nat.beq b c&&Nat.beq I dG| .bH,.bH=>true| .nilIface,.nilIface=>true| .iface t v,.iface eu e=>Nat.beq t eu&&hS n v e| .agg a,.agg b=>pf n a b|_,_=>false
 where
 pf (n:Nat):List z->List z->Bool
 |[],[]=>true|x::a,o::b=>hS n x o&&pf n a b|_,_=>false
def findKey(q:E S)(t:Nat)(k:z):List (z×z×Nat)->Nat->Option (Option (Nat×z))
 |[],_=>some none|(b,v,_)::a,i=>match gn C q 20 t k b with
  |some true=>some (some (i,v))|some false=>findKey q t k a (i+1)|none=>none
def jx(q:E S)(t:Nat)(k:z):List (z×z)->Option (Option z)
 |[]=>some none|(b,v)::a=>match jx q t k a,gn C q 20 t k b with
  |some r,some false=>some r|some none,some true=>some (some v)|_,_=>none
def s0(r:Option (Option z)):Option (Option (Nat×z)):=match r with
 |some (some v)=>some (some (0,v))|some none=>some none|none=>none
def vQ(q:E S)(t:Nat)(m k:z)(ok:Bool):Option z:=
 match C.P.underlying t with
 |some (.map dY b)=>
  (match (match m with
   | .gO=>ba (hj C 20 dY k) (some none) none| .map r=>(match H C q r with|some (.map a _)=>ba (hj C 20 dY k) (findKey C q dY k a 0) none|some (.look a)=>ba (hj C 20 dY k) (s0 (jx C q dY k a)) none|_=>none)|_=>none)with
  |none=>none|some none=>(match kg C b with|some aj=>some (ba (ok) (.tuple [aj,.bool false])<|aj)|none=>none)|some (some (_,v))=>some (ba (ok) (.tuple [v,.bool true])<|v))
 |_=>none
def vP(q:E S)(t:Nat)(x:z):Option z:=
 match C.P.underlying t,x with
 |some .string,.str s=>hC .i64 (Int.ofNat s.length)|some (.array n _),_=>some (.int .i64 (Int.ofNat n))|some (.pointer bj),_=>(match C.P.underlying bj with|some (.array n _)=>some (.int .i64 (Int.ofNat n))|_=>none)|some (.slice _),.slice _ _ n _=>hC .i64 (Int.ofNat n)|some (.slice _),.cq _ _ n _=>hC .i64 (Int.ofNat n)|some (.slice _),.ax=>some (.int .i64 0)|some (.slice _),.gf .. =>some (.int .i64 0)|some (.map _ _),.gO=>some (.int .i64 0)|some (.map _ _),.map r=>(match H C q r with|some (.map a _)=>hC .i64 (Int.ofNat a.length)|_=>none)|_,_=>none
def vM(t:Nat)(x:z):Option z:=
 match C.P.underlying t,x with
 |some (.slice _),.slice _ _ _ n=>hC .i64 (Int.ofNat n)|some (.slice _),.ax=>some (.int .i64 0)|_,_=>none
def h5(a:Bool):z->List z->Option z
 |v,[]=>some v| .int k x,.int _ o::l=>h5 a (.int k (ba (a) ((ba (m3 x o) (o)<|x))<|(ba (m3 o x) (o)<|x))) l|_,_=>none
def nG:List z->Option (List Nat)
 |[]=>some []| .int .u8 (.ofNat n)::l=>(match nG l with|some r=>some (n%256::r)|none=>none)|_=>none
def gq(q:E S)(b I n:Nat):Option (List z):=
 match cellsOf C q b with
 |some c=>c.gs I n|none=>ba (Nat.beq n 0) (some []) none
def sk(q:E S)(x:z):Option z:=
 match x with
 | .ax=>some (.str [])| .slice b I len _=>(match gq C q b I len with|some l=>(match nG l with|some s=>some (.str s)|none=>none)|none=>none)| .cq b I len _=>(match gq C q b I len with|some l=>(match nG l with|some s=>some (.str s)|none=>none)|none=>none)|_=>none
def AL(t:Nat)(a:Array (Nat×Operand))(_:E S)(ab:Operand->Option z):Option z:=
 match nO ab a.toList with|some b4=>vL C t b4|none=>none
def j4(I:Operand):Bool:=match I with| .const _=>true|_=>false
def wT(op:BinOp)(t:Nat)(x o:Operand)(q:E S)(ab:Operand->Option z):Option z:=
 match ab x,ab o with|some a,some b=>b7 C q op t (j4 x||j4 o) a b|_,_=>none
def AS(op:UnOp)(x:Operand)(_:E S)(ab:Operand->Option z):Option z:=
 match ab x with|some a=>dX op a|none=>none
def uF(s d:Nat)(x:Operand)(q:E S)(ab:Operand->Option z):Option z:=
 match ab x with
 |some a=>(match yC C s d a with
  |some v=>some v|none=>(match C.P.underlying s,C.P.underlying d with
   |some (.slice e),some .string=>(match C.P.underlying e with|some (.int .u8)=>sk C q a|_=>none)|_,_=>none))
 |none=>none
def uH(t:Nat)(x:Operand)(_:E S)(ab:Operand->Option z):Option z:=
 match C.P.underlying t,ab x with
 |some (.interface _),_=>none|some _,some v=>some (.iface t v)|_,_=>none
def AO(fn:Fn)(first c:Array Operand)(_:E S)(ab:Operand->Option z):Option z:=
 match jZ ab first.toList,jZ ab c.toList with
 |some a,some b=>(match fn with| .func f=>some (.func (.func f) a b)|_=>none)|_,_=>none
def AR(t:Nat)(x:Operand)(aT ag a:Option Operand)(q:E S)(ab:Operand->Option z):Option z:=
 match ab x,py ab aT,py ab ag,py ab a with
 |some v,some l,some h,some m=>vR C q t v l h m|_,_,_,_=>none
def uG(t:Nat)(x:Operand)(f:Nat)(_:E S)(ab:Operand->Option z):Option z:=
 match C.P.underlying t,ab x with
 |some (.struct b),some (.agg cs)=>(match kF b.toList f with
  |some a=>p8 C a.type cs a.offset|none=>none)
 |_,_=>none
def AP(t:Nat)(x i:Operand)(_:E S)(ab:Operand->Option z):Option z:=
 match ab x,ab i with|some a,some b=>vO C t a b|_,_=>none
def AQ(t:Nat)(m k:Operand)(ok:Bool)(q:E S)(ab:Operand->Option z):Option z:=
 match ab m,ab k with|some a,some b=>vQ C q t a b ok|_,_=>none
def uE(x:Operand)(a:Nat)(ok:Bool)(_:E S)(ab:Operand->Option z):Option z:=
 match C.P.underlying a,ab x with
 |some (.interface _),_=>none|some _,some .nilIface=>ba (ok) ((match kg C a with|some aj=>some (.tuple [aj,.bool false])|none=>none))<|none
 |some _,some (.iface t v)=>ba (Nat.beq t a) (some (ba (ok) (.tuple [v,.bool true])<|v))<|ba (ok) ((match kg C a with|some aj=>some (.tuple [aj,.bool false])|none=>none))<|none
 |_,_=>none
def AM(b:Builtin)(args:Array Operand)(bM:Array TypeId)(q:E S)(ab:Operand->Option z):Option z:=
 match b,jZ ab args.toList with
 | .len,some [x]=>(match bM.toList with|t::_=>vP C q t x|_=>none)| .cap,some [x]=>(match bM.toList with|t::_=>vM C t x|_=>none)| .max,some (x::l)=>h5 true x l| .min,some (x::l)=>h5 false x l|_,_=>none
def AN(c:Call)(q:E S)(ab:Operand->Option z):Option z:=
 match c with
 |⟨.builtin b,args,bM⟩=>AM C b args bM q ab|_=>none
def uI:List Nat->Option Nat
 |[]=>none|a::l=>match l with|[]=>some a|_=>uI l
def mb(b:Nat):List (z×z×Nat)->Option (z×z×Nat)
 |[]=>none|e::a=>ba (Nat.beq e.2.2 b) (some e) (mb b a)
def sU(e:Operand)(q:E S)(ab:Operand->Option z):Option z:=
 match ab e with
 |some (.ptr r 0)=>(match H C q r with
  |some (.fD (some m) _ seen c)=>(match uI seen,H C q m with
   |some b,some (.map a bz)=>ba (Nat.beq bz c) (match mb b a with
    |some (k,v,_)=>some (.tuple [k,v])|none=>none) none
   |_,_=>none)
  |some (.qZ m _ _ _ c d)=>(match d,H C q m with
   |some b,some (.map a bz)=>ba (Nat.beq bz c) (match mb b a with
    |some (k,v,_)=>some (.tuple [k,v])|none=>none) none
   |_,_=>none)
  |_=>none)
 |_=>none
def iw(I:Op):al->E S->(Operand->Option z)->Option z:=
 match I with
 | .build t h=>λC=>AL C t h| .binOp op t x o _=>λC=>wT C op t x o| .unOp op _ x=>λ_=>AS op x| .convert s d x=>λC=>uF C s d x| .makeInterface t x=>λC=>uH C t x| .makeFunc fn first b=>λ_=>AO fn first b
 | .slice t x aT ag g=>λC=>AR C t x aT ag g| .field t x f=>λC=>uG C t x f| .index t x i=>λC=>AP C t x i| .lookup t m k ok=>λC=>AQ C t m k ok| .typeAssert x _ a ok=>λC=>uE C x a ok| .entry e=>λC=>sU C e| .call c=>λC=>AN C c|_=>λ_ _ _=>none
def pG(c:fT):Bool:=match c with
 | .dn _| .ph _ _=>true| .eP _ I=>(match I with
   | .lookup .. | .convert .. | .slice .. | .call _| .binOp .. | .entry _=>true|_=>false)
 |_=>false
def qV(t:Nat)(_:Operand->Option z)(b:Nat):Option (z×S):=
 match kg C t with|some aj=>some (.ptr b 0,.cells (E.ofList aj.cells 0 .nil) aj.cells.length .own)|none=>none
def uM(x:Operand)(ab:Operand->Option z)(b:Nat):Option (z×S):=
 match ab x with|some v=>some (.ptr b 0,.cells (E.ofList v.cells 0 .nil) v.cells.length .own)|none=>none
def uN(t len:Nat)(a:Array (Nat×Operand))(ab:Operand->Option z)(b:Nat):Option (z×S):=
 match C.P.underlying t,nO ab a.toList with
 |some (.slice ct),some b4=>(match fk C ct,kg C ct with
  |some s,some aj=>ba (Nat.ble (len*s) 16777216&&Nat.beq aj.cells.length s) ((match o1 (λi=>some (i*s,s)) (fj len aj.cells) b4 with
    |some cs=>some (.slice b 0 len len,.cells (E.ofList cs 0 .nil) cs.length .own)|none=>none))<|none
  |_,_=>none)
 |_,_=>none
def jS(I:Op):al->(Operand->Option z)->Nat->Option (z×S):=
 match I with
 | .alloc t=>λC=>qV C t| .box _ x=>λ_=>uM x| .buildSlice t len a=>λC=>uN C t len a| .makeMap _ none=>λ_ _ b=>some (.map b,.map [] 0)|_=>λ_ _ _=>none
def fi:List Nat->E S->E S
 |[],h=>h|b::l,h=>fi l (aH C h b none)
def cj:E z->Nat->List z->E z
 |c,_,[]=>c|c,I,v::l=>fB (c.set I (some v)) λc=>cj c (I+1) l
def hI(v:z):Bool:=match v with| .agg _=>false| .tuple _=>false|_=>true
def dU:List z->Bool
 |[]=>true|v::l=>hI v&&dU l
def g5(q:E S)(b I:Nat)(aG:List z):Option (E S):=
 match H C q b with
 |some (.cells c n st)=>ba (Nat.ble (I+aG.length) n&&eB C b&&dU aG) ((match st with
   | .own=>fB (cj c I aG) λc=>fB (aH C q b (some (.cells c n .own))) λq=>some q| .marked=>fB (cj c I aG) λc=>fB (aH C q b (some (.cells c n .marked))) λq=>some q| .grow b3=>fB (cj c I aG) λc=>fB (aH C (fi C b3 q) b (some (.cells c n (.grow [])))) λq=>some q|_=>none))<|none
 |_=>none
def fQ(q:E S)(aN:Nat)(x:z):Option (Nat×List z):=
 match x with
 | .ax=>some (0,[])| .gf .. =>some (0,[])| .slice b I len _=>(match gq C q b I (len*aN)with|some l=>some (len,l)|none=>none)| .cq b I len _=>(match gq C q b I (len*aN)with|some l=>some (len,l)|none=>none)| .str s=>ba (Nat.beq aN 1) (some (s.length,s.map λn=>z.int .u8 (Int.ofNat n))) none|_=>none
inductive ck where
 |val (v:z)|cJ (v:z) (q:E S) (u:Nat)|enter (f:Nat) (args:List z)|known (f:Nat) (args:List z) (v:z)|wrote (f:Nat) (args:List z) (q:E S)|round (l:Nat) (args:List z)|defer (d:eD)|recover|panic (v:z)|fork (l:List (z×E S))
def fE(C:al)(q:E S)(u:Nat)(I:S)(k:Nat->z):Option ck:=
 kw u λu=>fB (aH C q u (some I)) λq=>some (.cJ (k u) q (u+1))
def k6(q:E S)(u n aN:Nat)(l:List z):Option ck:=
 ba (Nat.ble n 1048576) (fE C q u (.cells (E.ofList l 0 .nil) l.length (.grow [])) λb=> .cq b 0 n aN)<|none
def oM(q:E S)(u:Nat)(b I len aN n:Nat)(l:List z):Option ck:=
 match H C q b with
 |some (
   .cells c size (.grow b3))=>ba (eB C b)
  (ba (
   Nat.ble (I+(len+n)*aN) size)
   (match g5 C q b (I+len*aN) l with|some D=>some (.cJ (.cq b I (len+n) aN) D u)|none=>none)
   (ba (Nat.ble (len+n) 1048576&&dU l) (ba (Nat.beq (I+len*aN) size&&Nat.beq I 0)
    (fB (cj c size l) λd=>fE C (aH C q b (some (.cells c size .fG))) u (.cells d (size+l.length) (.grow (b::b3))) λa=> .cq a 0 (len+n) aN)
    (match c.gs I (len*aN)with
    |some dk=>fE C (aH C (fi C b3 q) b none) u (.cells (E.ofList (dk++l) 0 .nil) (dk++l).length (.grow [])) λa=> .cq a 0 (len+n) aN|none=>none)) none)) none
 |_=>none
def vS(q:E S)(u:Nat)(b aN n:Nat)(l:List z):Option ck:=
 match H C q b with
 |some (.cells _ _ (.grow b3))=>ba (eB C b)
  (ba (Nat.ble n 1048576&&dU l) (fE C (aH C (fi C b3 q) b none) u (.cells (E.ofList l 0 .nil) l.length (.grow [])) λa=> .cq a 0 n aN) none) none
 |_=>none
def jU(q:E S)(u:Nat)(aN n:Nat)(l:List z)(s:z):Option ck:=
 match s with
 | .ax=>k6 C q u n aN l| .slice b I len cap=>ba (Nat.ble (len+n) cap) ((match g5 C q b (I+len*aN) l with|some D=>some (.cJ (.slice b I (len+n) cap) D u)|none=>none))<|(match gq C q b I (len*aN)with
    |some dk=>k6 C q u (len+n) aN (dk++l)|none=>none)
 | .cq b I len a=>ba (Nat.beq a aN) (oM C q u b I len aN n l)<|none
 | .gf b _ _ a=>ba (Nat.beq a aN) (vS C q u b aN n l)<|none
 |_=>none
def mM(q:E S)(aN:Nat)(s:z):Option ck:=
 match s with
 | .ax=>some (.val .ax)| .slice b I len cap=>ba (Nat.ble len cap) (some (.val (.slice b I len cap))) none| .cq b I len a=>ba (Nat.beq a aN) (match ii C q b with
   |some n=>ba (Nat.ble (I+len*aN) n) (some (.val (.cq b I len a))) none|none=>none) none
 | .gf b I l a=>some (.val (.gf b I l a))|_=>none
def vN(q:E S)(u:Nat)(st:Nat)(s:z)(n:Nat):Option ck:=
 match C.P.underlying st with
 |some (.slice ct)=>(match C.P.info? ct,kg C ct with
  |some i,some aj=>ba (Nat.blt 0 i.size&&Nat.ble i.bytes 65536&&Nat.beq aj.cells.length i.size&&Nat.ble n 1048576) (ba (Nat.beq n 0) (mM C q i.size s)<|jU C q u i.size n (fj n aj.cells) s)<|none
  |_,_=>none)
 |_=>none
def I4(i:TypeInfo):Bool:=match i.zero with|some aj=>Nat.beq aj.cells.size i.size|none=>false
def si(q:E S)(u:Nat)(st:Nat)(s x:z):Option ck:=
 match C.P.underlying st with
 |some (.slice ct)=>(match C.P.info? ct with
  |some i=>(match fQ C q i.size x with
   |some (n,l)=>ba (Nat.blt 0 i.size&&Nat.ble i.bytes 65536&&I4 i) ((ba (Nat.beq n 0) (mM C q i.size s)<|jU C q u i.size n l s))<|none
   |none=>none)
  |none=>none)
 |_=>none
def adv(q:E S)(u:Nat)(b I m:Nat)(l:List z):Option ck:=
 ba (Nat.beq m 0) (some (.val (.int .i64 0)))<|
 (match g5 C q b I l with|some D=>some (.cJ (.int .i64 (Int.ofNat m)) D u)|none=>none)
def tK(q:E S)(u:Nat)(t:Nat)(x:z):Option ck:=
 match C.P.underlying t with
 |some (.slice ct)=>(match fk C ct,kg C ct with
  |some aN,some aj=>ba (Nat.beq aj.cells.length aN) (match x with
   | .ax=>some (.val (.tuple []))| .slice b I len _=>ba (Nat.beq len 0) (some (.val (.tuple []))) (match g5 C q b I (fj len aj.cells)with|some q=>some (.cJ (.tuple []) q u)|none=>none)| .cq b I len _=>ba (Nat.beq len 0) (some (.val (.tuple []))) (match g5 C q b I (fj len aj.cells)with|some q=>some (.cJ (.tuple []) q u)|none=>none)|_=>none) none
  |_,_=>none)
 |_=>none
def setObj(q:E S)(u:Nat)(r:Nat)(I:S)(v:z):Option ck:=
 ba (eB C r) (fB (aH C q r (some I)) λq=>some (.cJ v q u))<|none
def tL(q:E S)(u:Nat)(t:Nat)(m k v:z):Option ck:=
 match C.P.underlying t,m with
 |some (.map dY _),.map r=>(match H C q r with
  |some (.map a bz)=>ba (hj C 20 dY k) (match findKey C q dY k a 0 with
   |some (some (i,_))=>(match kF a i with
    |some (b,_,born)=>ba (hS 20 b k) (setObj C q u r (.map (a.set i (k,v,born)) bz) undef) none|none=>none)
   |some none=>setObj C q u r (.map (a++[(k,v,bz)]) (bz+1)) undef|none=>none) none
  |_=>none)
 |_,_=>none
def sj(q:E S)(u:Nat)(t:Nat)(m k:z):Option ck:=
 match C.P.underlying t,m with
 |some (.map dY _),.map r=>(match H C q r with
  |some (.map a bz)=>ba (hj C 20 dY k) (match findKey C q dY k a 0 with
   |some (some (i,_))=>setObj C q u r (.map (a.eraseIdx i) bz) (.tuple [])|some none=>setObj C q u r (.map a bz) (.tuple [])|none=>none) none
  |_=>none)
 |_,_=>none
def xn(x o:z):Bool:=match x,o with
    | .bool a,.bool b=>so a b| .int k a,.int c b=>iZ k c&&k9 a b| .str a,.str b=>hH a b| .ax,.ax=>true| .bH,.bH=>true| .nilIface,.nilIface=>true|_,_=>false
def rm:List z->List z->Bool
 |[],[]=>true|a::x,b::o=>xn a b&&rm x o|_,_=>false
def known(f:Nat)(args:List z):List (Nat×List z×z)->Option z
 |[]=>none|(g,a,v)::l=>ba (Nat.beq f g&&rm args a) (some v)<|known f args l
def hi(f:Nat)(args:List z):Option ck:=
 match C.eC f args with
 |some v=>some (.known f args v)|none=>(match C.P.funcs[f]? with
  |some fn=>(match fn.body with
   |some _=>some (.enter f args)|none=>none)
  |none=>none)
def k8(x:Int):List Int->List Int
 |[]=>[x]|o::l=>ba (m3 o x) (o::k8 x l) (x::o::l)
def d0:List Int->List Int
 |[]=>[]|x::l=>k8 x (d0 l)
def sO(f:Nat):Bool:=match C.P.funcs[f]? with
 |some fn=>ba (Nat.beq fn.params.size 1) (fn.name== "slices.Sort[[]int,int]") false|none=>false
def qI:List z->Option (List Int)
 |[]=>some []| .int .i64 n::l=>(match qI l with|some r=>some (n::r)|none=>none)|_=>none
def tO(q:E S)(b I len:Nat):Option (E S):=match gq C q b I len with
 |some l=>(match qI l with
  |some ao=>ba (Nat.blt 0 len&&Nat.ble len 1000000) (g5 C q b I ((d0 ao).map λaj=> .int .i64 aj)) none|none=>none)
 |none=>none
def p7(q:E S)(a:List z):Option (E S):=match a with
 |[.ax]=>some q|[.slice b I len _]=>tO C q b I len|[.cq b I len _]=>tO C q b I len|_=>none
def oK(fn:Fn)(a args:List z):Option ck:=
 match fn with
 | .func f=>hi C f (args++a)| .yield l=>some (.round l args)|_=>none
def jl(q:E S)(t:Nat)(v:z)(name:String)(args:List z):Option ck:=
 match C.P.info? t with
 |some i=>(match i.methods.find? (·.name==name)with
  |some m=>ba m.path.isEmpty (match m.func,C.P.underlying t with
   |some (f,true),some (.pointer _)=>hi C f (v::args)|some (f,false),some (.pointer e)=>(match g4 C q e v with|some x=>hi C f (x::args)|none=>none)|some (f,false),some _=>hi C f (v::args)|_,_=>none) none
  |none=>none)
 |none=>none
def xM(q:E S)(u s:Nat)(a v:z):Option ck:=
 match a with
 | .ptr b I=>ba (Nat.beq v.cells.length s&&Nat.blt 0 s) ((match g5 C q b I v.cells with|some D=>some (.cJ undef D u)|none=>none))<|none
 |_=>none
def sL(t:Nat)(m k x:Operand)(q:E S)(u:Nat)(ab:Operand->Option z):Option ck:=
 match ab m,ab k,ab x with
 |some m,some k,some v=>tL C q u t m k v|_,_,_=>none
def ut(_:Nat)(_ _:Operand)(_:E S)(_:Nat)(_:Operand->Option z):Option ck:=(λ_:al=>none) C
def uq(_ _ _:Operand)(_:E S)(_:Nat)(_:Operand->Option z):Option ck:=(λ_:al=>none) C
def us(t:Nat)(l c:Operand)(q:E S)(u:Nat)(ab:Operand->Option z):Option ck:=
 match C.P.underlying t,ab l,ab c with
 |some (.slice ct),some l,some c=>(match hc l,hc c,C.P.info? ct,kg C ct with
  |some l,some c,some i,some aj=>ba (Nat.ble l c&&Nat.ble c 1048576&&Nat.ble i.bytes 65536&&Nat.blt 0 i.size&&Nat.beq aj.cells.length i.size) (fE C q u (.cells (E.ofList (fj c aj.cells) 0 .nil) (c*i.size) .own) λb=> .slice b 0 l c)<|none
  |_,_,_,_=>none)
 |_,_,_=>none
def ur(t:Nat)(r:Operand)(q:E S)(u:Nat)(ab:Operand->Option z):Option ck:=
 match C.P.underlying t,ab r with
 |some (.map _ _),some (.int _ _)=>fE C q u (.map [] 0) λb=> .map b|_,_=>none
def uv(s d:Nat)(x:Operand)(q:E S)(u:Nat)(ab:Operand->Option z):Option ck:=
 match C.P.underlying s,C.P.underlying d,ab x with
 |some .string,some (.slice e),some (.str l)=>(match C.P.underlying e with
  |some (.int .u8)=>k6 C q u l.length 1 (l.map λn=>z.int .u8 (Int.ofNat n))|_=>none)
 |some (.slice _),some (.slice e),some (.slice b I len cap)=>(match C.P.underlying e with
  |some (.int .u8)=>ba (Nat.beq s d&&eB C b) (match H C q b with
   |some (.cells c n .own)=>fB (aH C q b (some (.cells c n .marked))) λq=>some (.cJ (.slice b I len cap) q u)|some (.cells _ _ .marked)=>some (.val (.slice b I len cap))|_=>none) none
  |_=>none)
 |_,_,_=>none
def uu(t:Nat)(x:Operand)(q:E S)(u:Nat)(ab:Operand->Option z):Option ck:=
 match C.P.underlying t,ab x with
 |some .string,some (.str s)=>fE C q u (.iH s 0) λb=> .ptr b 0|some (.map _ _),some .gO=>fE C q u (.fD none 0 [] 0) λb=> .ptr b 0|some (.map _ _),some (.map r)=>(match H C q r with
  |some (.map _ bz)=>fE C q u (.fD (some r) bz [] bz) λb=> .ptr b 0|_=>none)
 |_,_=>none
def gN(n:Nat):List Nat->Bool
 |[]=>false|a::l=>Nat.beq n a||gN n l
def fl(seen:List Nat):List (z×z×Nat)->List (z×z×Nat)
 |[]=>[]|e::a=>ba (gN e.2.2 seen) (fl seen a) (e::fl seen a)
def nC(a:Nat):List (z×z×Nat)->Bool
 |[]=>true|e::b=>Nat.blt e.2.2 a&&nC a b
def l5(a:Nat):List (z×z×Nat)->Bool
 |[]=>false|e::b=>Nat.blt e.2.2 a||l5 a b
def qx(C:al)(q:E S)(r m a bz:Nat)(seen:List Nat):List (z×z×Nat)->List (z×E S)
 |[]=>[]|(k,v,b)::l=>(.tuple [.bool true,k,v],aH C q r (some (.fD (some m) a (seen++[b]) bz)))::qx C q r m a bz seen l
def jt(g:Operand)(f:Bool)(q:E S)(u:Nat)(ab:Operand->Option z):Option ck:=
 match ab g with
 |some (.ptr r 0)=>ba (eB C r) (match H C q r,f with
  |some (.iH s pos),true=>ba (Nat.blt pos s.length) (match kF s pos with
    |some c=>ba (Nat.blt c 128) (setObj C q u r (.iH s (pos+1)) (.tuple [.bool true,.int .i64 (Int.ofNat pos),.int .i32 (Int.ofNat c)])) none|none=>none)
   (some (.val (.tuple [.bool false])))
  |some (.fD none _ _ _),false=>some (.val (.tuple [.bool false]))|some (.fD (some m) d seen e),false=>(match H C q m with
   |some (.map a bz)=>(match fl seen a with
    |[]=>ba (nC d a) (ba (l5 e a||seen.isEmpty||a.isEmpty) (some (.val (.tuple [.bool false]))) none) none|[(k,v,b)]=>ba (nC d a&&l5 e a) (setObj C q u r (.fD (some m) d (seen++[b]) bz) (.tuple [.bool true,k,v])) none|l=>ba (nC d a&&l5 e a) (some (.fork (qx C q r m d bz seen l))) none)
   |_=>none)
  |_,_=>none) none
 |_=>none
def Aw(x:Operand)(_:E S)(_:Nat)(ab:Operand->Option z):Option ck:=
 match ab x with|some (.iface t v)=>some (.panic (.iface t v))|_=>none
def Av(c:Call)(_:E S)(_:Nat)(ab:Operand->Option z):Option ck:=
 match c with
 |⟨.value f,args,_⟩=>(match ab f,jZ ab args.toList with
  |some (.func fn first b),some a=>some (.defer ⟨.fn fn b,first++a⟩)|_,_=>none)
 |_=>none
def uo(b:Builtin)(args:Array Operand)(bM:Array TypeId)(q:E S)(u:Nat)(ab:Operand->Option z):Option ck:=
 match b,jZ ab args.toList with
 | .append,some [s,x]=>(match bM.toList with
   |st::eF::_=>(match C.P.underlying eF with
    |some (.int _)=>(match hc x with|some n=>vN C q u st s n|none=>none)|some (.slice _)=>si C q u st s x|some .string=>si C q u st s x|_=>none)
   |_=>none)
 | .recover,some []=>some .recover| .clear,some [x]=>(match bM.toList with
   |t::_=>tK C q u t x|_=>none)
 | .delete,some [m,k]=>(match bM.toList with
   |t::_=>sj C q u t m k|_=>none)
 |_,_=>none
def qA(c:Call)(q:E S)(u:Nat)(ab:Operand->Option z):Option ck:=
 match c with
 |⟨.value f,args,_⟩=>(match ab f,jZ ab args.toList with
  |some (.func fn first d),some a=>oK C fn d (first++a)|_,_=>none)
 |⟨.builtin b,args,bM⟩=>uo C b args bM q u ab|⟨.invoke r name,args,_⟩=>(match ab r,jZ ab args.toList with
  |some (.iface t v),some a=>jl C q t v name a|_,_=>none)
def h4(I:Op):al->E S->Nat->(Operand->Option z)->Option ck:=
 match I with
 | .mapUpdate t m k x=>λC=>sL C t m k x| .insert t m k x=>λC=>sL C t m k x| .mapEntry t m k=>λC=>ut C t m k| .entryStore _ m s x=>λC=>uq C m s x| .makeSlice t l c=>λC=>us C t l c| .makeMap t (some r)=>λC=>ur C t r| .convert s d x=>λC=>uv C s d x| .range t x=>λC=>uu C t x| .next b a=>λC=>jt C b a| .panic x=>λ_=>Aw x| .defer c=>λ_=>Av c| .call c=>λC=>qA C c|_=>λ_ _ _ _=>none
end ae
def gJ(x:gh):List (Nat×z)->E z->Option z:=
 match x with
 | .v j=>λad _=>cL ad j| .t n=>λ_ B=>B.get n| .c a=>λ_ _=>some a
def oY(ad:List (Nat×z))(B:E z):List gh->Option (List z)
 |[]=>some []|x::l=>match gJ x ad B with
  |none=>none|some v=>match oY ad B l with
   |none=>none|some r=>some (v::r)
def fA(bk:List (Nat×Nat))(ad:List (Nat×z))(B:E z)(I:Operand):Option z:=match I with
 | .tmp t=>(match cL bk t with|some j=>cL ad j|none=>B.get t)| .const v=>ra v| .global g=>some (.ptr g 0)| .func f=>some (.func (.func f) [] [])
def es(d:Nat)(v:z):Option z:=match v with| .ptr b I=>some (.ptr b (I+d))|_=>none
def x1(c:z)(a b:gh)(ad:List (Nat×z))(B:E z):Option z:=match c with
 | .bool c=>ba c (gJ a ad B) (gJ b ad B)|_=>none
def vo(n aN:Nat)(x:z)(i:Nat):Option z:=match x with| .ptr b I=>ba (Nat.blt i n) (some (.ptr b (I+i*aN))) none|_=>none
def pL(aN:Nat)(x:z)(i:Nat):Option z:=match x with
 | .slice b I len _=>ba (Nat.blt i len) (some (.ptr b (I+i*aN))) none| .cq b I len _=>ba (Nat.blt i len) (some (.ptr b (I+i*aN))) none|_=>none
def ht(v:z):Option z:=match v with
 | .ptr b I=>some (.ptr b I)| .func fn a b=>(match fn with| .func f=>some (.func (.func f) a b)| .yield f=>some (.func (.yield f) a b)|_=>none)| .iface t v=>some (.iface t v)|_=>none
def hZ(i:Nat)(v:z):Option z:=match v with| .tuple aG=>kF aG i|_=>none
def d6(I:fT):al->E S->List (Nat×z)->E z->Option z:=
 match I with
 | .q0 x=>λ_ _=>gJ x| .pick c a b=>λ_ _ ad B=>(match gJ c ad B with|some c=>x1 c a b ad B|none=>none)| .dn a=>λC q ad B=>(match gJ a ad B with|some a=>ay C q a|none=>none)| .ph n a=>λC q ad B=>(match gJ a ad B with|some a=>ca C q n a|none=>none)| .off d x=>λ_ _ ad B=>(match gJ x ad B with|some a=>es d a|none=>none)| .pc n aN x i=>λ_ _ ad B=>(match gJ x ad B with|some a=>(match gJ i ad B with|some i=>(match hc i with|some i=>vo n aN a i|none=>none)|none=>none)|none=>none)| .pd aN x i=>λ_ _ ad B=>(match gJ x ad B with|some a=>(match gJ i ad B with|some i=>(match hc i with|some i=>pL aN a i|none=>none)|none=>none)|none=>none)| .q5 x=>λ_ _ ad B=>(match gJ x ad B with|some a=>ht a|none=>none)| .uy op x o=>λ_ _ ad B=>(match gJ x ad B with|some a=>(match gJ o ad B with|some b=>aK op a b|none=>none)|none=>none)| .ext i x=>λ_ _ ad B=>(match gJ x ad B with|some a=>hZ i a|none=>none)| .eP bk I=>λC q ad B=>iw I C q (fA bk ad B)|_=>λ_ _ _ _=>none
def iB(I:fT):al->Nat->List (Nat×z)->E z->Option (z×S):=
 match I with
 | .make bk I=>λC b ad B=>jS I C (fA bk ad B) b|_=>λ_ _ _ _=>none
def eE(I:fT):al->E S->Nat->List (Nat×z)->E z->Option ck:=
 match I with
 | .st n a v=>λC q u ad B=>(match gJ a ad B with|some a=>(match gJ v ad B with|some v=>xM C q u n a v|none=>none)|none=>none)| .call f args=>λC q _ ad B=>(match oY ad B args with|some b=>ba (sO C f) (match p7 C q b with|some D=>some (.wrote f b D)|none=>none) (hi C f b)|none=>none)| .db bk I=>λC q u ad B=>h4 I C q u (fA bk ad B)|_=>λ_ _ _ _ _=>none
inductive Ji where|eP|make|db
def hF(I:fT):Ji:=match I with
 | .st .. => .db| .call .. => .db| .db .. => .db
 | .make .. => .make|_=> .eP
def wZ(I:fT)(C:al)(q:E S)(u:Nat)(ad:List (Nat×z))(B:E z):Option ck:=
 kw u λu=>(match iB I C u ad B with|some (v,bU)=>fB (aH C q u (some bU)) λq=>some (.cJ v q (u+1))|none=>none)
def dq(m i:Nat):Bool:=Nat.beq (Nat.mod (Nat.div m (Nat.pow 2 i)) 2) 1
def hK(bk:List (Nat×Nat))(I:Operand):Option gh:=match I with
 | .tmp t=>(match cL bk t with|some j=>some (.v j)|none=>some (.t t))| .const v=>(match ra v with|some a=>some (.c a)|none=>none)| .global g=>some (.c (.ptr g 0))| .func f=>some (.c (.func (.func f) [] []))
def tr(bk:List (Nat×Nat)):List Operand->Option (List gh)
 |[]=>some []|x::l=>match hK bk x,tr bk l with|some v,some r=>some (v::r)|_,_=>none
def RE(C:al)(s d:Nat):Bool:=match C.P.underlying s,C.P.underlying d with
 |some .string,some (.slice _)=>true|some (.slice _),some (.slice _)=>true|_,_=>false
def Rz(C:al)(t:Nat):Bool:=match C.P.underlying t with|some (.int _)=>true|_=>false
def g6(C:al)(bk:List (Nat×Nat))(I:Op):Option fT:=
 match I with
 | .move x| .assign x=>(match hK bk x with|some x=>some (.q0 x)|none=>none)| .pick c a b=>(match hK bk c,hK bk a,hK bk b with|some c,some a,some b=>some (.pick c a b)|_,_,_=>none)| .load t a=>(match hK bk a,qJ C t,fk C t with
   |some a,some true,some s=>some (.ph s a)|some a,some false,_=>some (.dn a)|_,_,_=>none)
 | .fieldAddr s x f=>(match C.P.underlying s,hK bk x with
   |some (.struct h),some x=>(match kF h.toList f with
    |some e=>(match fk C e.type with|some aj=>ba (Nat.beq aj 0) (none)<|some (.off e.offset x)|none=>none)|none=>none)
   |_,_=>none)
 | .indexAddr t x i=>(match C.P.underlying t,hK bk x,hK bk i with
   |some (.array n ct),some x,some i=>(match fk C ct with|some aN=>some (.pc n aN x i)|none=>none)|some (.slice ct),some x,some i=>(match fk C ct with|some aN=>some (.pd aN x i)|none=>none)|_,_,_=>none)
 | .nilCheck x=>(match hK bk x with|some x=>some (.q5 x)|none=>none)| .binOp op t x o j=>ba (Rz C t) ((match hK bk x,hK bk o with|some x,some o=>some (.uy op x o)|_,_=>none))<|some (.eP bk (.binOp op t x o j))
 | .extract x i=>(match hK bk x with|some x=>some (.ext i x)|none=>none)| .store t a x=>(match hK bk a,hK bk x,fk C t with|some a,some x,some s=>some (.st s a x)|_,_,_=>none)| .call ⟨.value (.func f),args,bM⟩=>(match tr bk args.toList with|some g=>some (.call f g)|none=>none)| .call ⟨.builtin b,args,bM⟩=>(match b with
   | .len| .cap| .max| .min=>some (.eP bk (.call ⟨.builtin b,args,bM⟩))|_=>some (.db bk (.call ⟨.builtin b,args,bM⟩)))
 | .call c=>some (.db bk (.call c))| .convert s d x=>ba (RE C s d) (some (.db bk (.convert s d x)))<|some (.eP bk (.convert s d x))
 | .alloc t=>some (.make bk (.alloc t))| .box t x=>some (.make bk (.box t x))| .buildSlice t l p=>some (.make bk (.buildSlice t l p))| .makeMap t none=>some (.make bk (.makeMap t none))| .makeMap t (some r)=>some (.db bk (.makeMap t (some r)))| .mapUpdate t m k x=>some (.db bk (.mapUpdate t m k x))| .insert t m k x=>some (.db bk (.insert t m k x))| .mapEntry t m k=>some (.db bk (.mapEntry t m k))| .entryStore t m s x=>some (.db bk (.entryStore t m s x))| .makeSlice t l c=>some (.db bk (.makeSlice t l c))| .range t x=>some (.db bk (.range t x))| .next i s=>some (.db bk (.next i s))| .panic x=>some (.db bk (.panic x))| .defer c=>some (.db bk (.defer c))|I=>some (.eP bk I)
def mX(j:Nat):List (Nat×Nat)->Option Nat
 |[]=>none|(t,i)::l=>ba (Nat.beq i j) (some t)<|mX j l
def tW(wr:List (Nat×Nat))(g:Option (Nat×Bool)):Option (Option (Nat×Bool)):=match g with
 |none=>some none|some (j,want)=>(match mX j wr with
  |some t=>(match cL wr t with
   |some a=>ba (Nat.beq j a) (some (some (j,want)))<|none
   |none=>none)
  |none=>none)
def nA(I:Oper)(i:Nat)(wr:List (Nat×Nat)):List (Nat×Nat):=match I.dst with|some d=>(d,i)::wr|none=>wr
def wh(n:Nat)(I:Oper):Bool:=match I.dst with|some d=>Nat.blt d n|none=>true
def ta(C:al)(ac:Nat)(bk:List (Nat×Nat))(I:Operand):Bool:=match I with
 | .tmp t=>(match cL bk t with|some _=>true|none=>dq ac t)| .global g=>Nat.blt g C.i2|_=>true
def rf(C:al)(ac:Nat)(bk:List (Nat×Nat)):List Operand->Bool
 |[]=>true|x::l=>ta C ac bk x&&rf C ac bk l
def k2(C:al)(n ac:Nat):List Oper->Nat->List (Nat×Nat)->Option (List dd)
 |[],_,_=>some []|I::l,i,wr=>kw i λi=>match tW wr I.guard,g6 C wr I.op with
  |some g,some op=>ba (wh n I&&rf C ac wr I.op.operands.toList) (match k2 C n ac l (i+1) (nA I i wr)with|some r=>some (⟨i,g,op⟩::r)|none=>none) none|_,_=>none
def gK(ac:Nat):List Oper->Nat->List (Nat×Nat)
 |[],_=>[]|I::l,i=>match I.dst with
  |some d=>ba (dq ac d) ((i,d)::gK ac l (i+1))<|gK ac l (i+1)
  |none=>gK ac l (i+1)
def dstsOf:List Oper->List Nat
 |[]=>[]|I::l=>match I.dst with|some d=>d::dstsOf l|none=>dstsOf l
structure yj where
 rest:List dd
 fin:List (Nat×Nat)
def uT(C:al)(n:Nat)(ae:Array Oper)(ac:Nat):Option yj:=
 match k2 C n ac ae.toList 0 []with
 |some cs=>some ⟨cs,gK ac ae.toList 0⟩|none=>none
def tc(I:Operand)(m:Nat):Nat:=match I with| .tmp t=>Nat.lor m (Nat.pow 2 t)|_=>m
def td(l:List Operand):Nat:=l.foldr tc 0
def ub(I:Oper):Nat:=match I.dst with|some d=>Nat.pow 2 d|none=>0
def wJ(wr:List (Nat×Nat))(g:Option (Nat×Bool)):Nat:=match g with
 |none=>0|some (j,_)=>(match mX j wr with|some t=>Nat.pow 2 t|none=>0)
def qn(a:List (Nat×Nat))(e:Edge)(m:Nat):Nat:=
 ba (dq m e.on) (m)<|ba (Region.binds .any e) ((match cL a e.on with|some k=>Nat.lor (Nat.lor m k) (Nat.pow 2 e.on)|none=>m))<|m
structure dM where
 i:Nat
 m:Nat
 r:Nat
 w:Nat
def pr:List Oper->Nat->List (Nat×Nat)->List (Nat×Nat)->List dM
 |[],_,_,_=>[]|I::l,i,wr,a=>kw i λi=>kw (I.after.toList.foldr (qn a) 0) λm=>
  ⟨i,m,Nat.lor (td I.op.operands.toList) (wJ wr I.guard),ub I⟩::pr l (i+1) (nA I i wr) ((i,m)::a)
def xe(a b:dM):Bool:=
 dq b.m a.i||(Nat.beq (Nat.land a.w (Nat.lor b.r b.w)) 0&&Nat.beq (Nat.land b.w a.r) 0)
def xg(a:dM):List dM->Bool
 |[]=>true|b::l=>xe a b&&xg a l
def u0:List dM->Bool
 |[]=>true|a::l=>xg a l&&u0 l
def ux:List dM->Bool
 |[]=>true|a::l=>(match l with|[]=>true|b::_=>dq b.m a.i)&&ux l
def re:List Oper->Nat->Bool
 |[],_=>true|I::l,i=>I.after.toList.all (λe=> !Region.binds .any e||Nat.blt e.on i)&&re l (i+1)
def l9(m:Nat):List dM->Nat
 |[]=>0|h::l=>ba (dq m h.i) (Nat.succ (l9 m l))<|l9 m l
def pb(i:Nat):List dM->Nat
 |[]=>0|h::l=>ba (dq h.m i) (0)<|Nat.succ (pb i l)
structure jj where
 x:dd
 aT:Nat
 ag:Nat
def h9(I:fT):Bool:=match hF I with| .db=>true|_=>false
def sM:List dM->List dd->List (dM×dd)
 |p::b4,c::cs=>ba (h9 c.op) ((p,c)::sM b4 cs)<|sM b4 cs
 |_,_=>[]
def sY(a:List dM):List dM->List dd->List jj
 |p::b4,c::cs=>ba (h9 c.op) (sY a b4 cs)<|⟨c,l9 p.m a,pb p.i a⟩::sY a b4 cs
 |_,_=>[]
def lD(k:Nat):List jj->List dd
 |[]=>[]|l::a=>ba (Nat.beq l.aT k) (l.x::lD k a)<|lD k a
def rt(k:Nat):List jj->List dd
 |[]=>[]|l::a=>ba (Nat.blt l.aT k&&Nat.ble k l.ag&&pG l.x.op) (l.x::rt k a)<|rt k a
def n0(a:List jj):Nat->List (dM×dd)->List mK
 |k,[]=>[⟨lD k a,rt k a,none⟩]|k,(_,b)::l=>⟨lD k a,rt k a,some b⟩::n0 a (k+1) l
def j0:List (dM×dd)->List dM
 |[]=>[]|(p,_)::l=>p::j0 l
structure yi where
 g1:List mK
 fin:List (Nat×Nat)
def uS(C:al)(n:Nat)(ae:Array Oper)(ac:Nat):Option yi:=
 match k2 C n ac ae.toList 0 []with
 |none=>none|some cs=>(λall=>(λa=>ba (re ae.toList 0&&u0 all&&ux (j0 a)) (some ⟨n0 (sY (j0 a) all cs) 0 a,gK ac ae.toList 0⟩)<|none) (sM all cs)) (pr ae.toList 0 [] [])
def FP:List Oper->Nat->Nat->Nat
 |[],_,r=>r|I::l,a,r=>FP l (Nat.lor a (ub I)) ((λrd=>Nat.lor r (Nat.xor rd (Nat.land rd a))) (td I.op.operands.toList))
def gY:Code->Nat
 | .region _ ae _=>FP ae.toList 0 0| .seq a b=>Nat.lor (gY a) (gY b)| .cond c a b=>tc c (Nat.lor (gY a) (gY b))| .block _ b=>gY b| .loop b=>gY b| .scope b=>gY b| .rangeFunc f _ a b=>tc f (Nat.lor (gY a) (gY b))|_=>0
def kb(l:List ResultVar):Nat:=l.foldr (λx r=>match x with| .tmp t=>Nat.lor r (Nat.pow 2 t)| .cell a _=>Nat.lor r (Nat.pow 2 a)) 0
def g7(C:al)(ac:Nat):Code->Bool
 | .seq a b=>g7 C ac a&&g7 C ac b| .cond c a b=>ta C ac [] c&&(g7 C ac a&&g7 C ac b)| .block _ b=>g7 C ac b| .loop b=>g7 C ac b| .scope b=>g7 C ac b| .rangeFunc f _ a b=>ta C ac [] f&&(g7 C ac a&&g7 C ac b)|_=>true
def n7(ac:Nat):List ResultVar->Bool
 |[]=>true| .tmp t::l=>dq ac t&&n7 ac l| .cell a _::l=>dq ac a&&n7 ac l
end
end Go.aF
@[match_pattern]abbrev Go.aF.z.Z(x:Int):Go.aF.z:=.int .i64 x
@[match_pattern]abbrev Go.aF.z.zT:Go.aF.z:=.bool false
@[match_pattern]abbrev Go.aF.z.zV:Go.aF.z:=.bool true
namespace Go.aF
@[simp] def cI{α:Type _}(a b:α):ba true a b=a:=rfl
@[simp] def ga{α:Type _}(a b:α):ba false a b=b:=rfl
def cY{α:Type _}(c:Bool)(a b:α):ba c a b=if c=true then a else b:=by cases c<;>rfl
def ee{α:Type _}(x o:Nat)(a b:α):ba (Nat.beq x o) a b=if x=o then a else b:=by
 rw[cY];by_cases h:x=o
 ·simp_all
 ·simp_all
@[simp] def cO{α:Type _}(c:Bool)(a:Option α)(v:α):ba c a none=some v↔c=true/\a=some v:=by cases c<;>simp
@[simp] def gi{cr:Type}(n:Nat)(k:Nat->cr):kw n k=k n:=by cases n<;>rfl
@[simp] def sE{cr:Type}(n:Int)(k:Int->cr):Ar n k=k n:=by cases n with|ofNat m=>exact gi m λm=>k (.ofNat m)|negSucc m=>exact gi m λm=>k (.negSucc m)
@[simp] def du{α cr:Type}(t:E α)(k:E α->cr):fB t k=k t:=by cases t<;>rfl
@[simp] def adr{α:Type}(j:Nat):cL ([]:List (Nat×α)) j=none:=rfl
def kr{α:Type}(a:Nat)(b:α)(l:List (Nat×α))(j:Nat):cL ((a,b)::l) j=if a=j then some b else cL l j:=by show ba (Nat.beq a j) (some b) (cL l j)=_;rw[ee]
@[simp] def jz{α:Type}(l:List α):∀i,kF l i=l[i]? :=by induction l with|nil=>intro i;rfl|cons a l U=>intro i;cases i with|zero=>rfl|succ j=>exact U j
namespace E
variable{α:Type}
@[simp] def adx(i:Nat):(E.nil:E α).get i=none:=rfl
@[simp] def ady(v:Option α)(l r:E α):(E.node v l r).get 0=v:=rfl
def o7(v:Option α)(l r:E α)(j:Nat):(E.node v l r).get (j+1)=if j%2=0 then l.get (j/2)else r.get (j/2):=by show ba (Nat.beq (j%2) 0) (l.get (j/2)) (r.get (j/2))=_;rw[ee]
def abz(f:Nat)(a:Option α):kH (f+1) E.nil 0 a=.node a .nil .nil:=rfl
def aby(f j:Nat)(a:Option α):kH (f+1) E.nil (j+1) a=
 if j%2=0 then .node none (kH f .nil (j/2) a) .nil else .node none .nil (kH f .nil (j/2) a):=by
 show ba (Nat.beq (j%2) 0) (fB (kH f .nil (j/2) a) λb=>E.node none b E.nil) (fB (kH f .nil (j/2) a) λc=>E.node none E.nil c)=_;rw[ee,du,du]
def abB(f:Nat)(v:Option α)(l r:E α)(a:Option α):kH (f+1) (.node v l r) 0 a=.node a l r:=rfl
def abA(f j:Nat)(v:Option α)(l r:E α)(a:Option α):kH (f+1) (.node v l r) (j+1) a=
 if j%2=0 then .node v (kH f l (j/2) a) r else .node v l (kH f r (j/2) a):=by
 show ba (Nat.beq (j%2) 0) (fB (kH f l (j/2) a) λb=>E.node v b r) (fB (kH f r (j/2) a) λc=>E.node v l c)=_;rw[ee,du,du]
def QL:∀(f:Nat) (t:E α) (i j:Nat) (a:Option α),i<f->(kH f t i a).get j=if i=j then a else t.get j:=by
 intro f;induction f with
 |zero=>grind|succ f U=>
  intro t i j a h;cases i with
  |zero=>
   cases t with
   |nil=>rw[abz];cases j with
    |zero=>simp|succ j=>rw[o7];simp
   |node v l r=>rw[abB];cases j with
    |zero=>simp|succ j=>rw[o7,o7];simp
  |succ i=>
   have ag:i/2<f:=Zo;cases t with
   |nil=>
    rw[aby];cases j with
    |zero=>split<;>simp|succ j=>
     by_cases e:i%2=0
     ·rw[Zv e,o7];by_cases b:j%2=0
      ·rw[Zv b,U _ _ _ _ ag];by_cases V:i/2=j/2
       ·rw[Zv V,Zv Zo]
       ·rw[Zi V,Zi Zo];rfl
      ·rw[Zi b,Zi Zo];rfl
     ·rw[Zi e,o7];by_cases b:j%2=0
      ·rw[Zv b,Zi Zo];rfl
      ·rw[Zi b,U _ _ _ _ ag];by_cases V:i/2=j/2
       ·rw[Zv V,Zv Zo]
       ·rw[Zi V,Zi Zo];rfl
   |node v l r=>
    rw[abA];cases j with
    |zero=>split<;>simp|succ j=>
     rw[o7 v l r];by_cases e:i%2=0
     ·rw[Zv e,o7];by_cases b:j%2=0
      ·rw[Zv b,Zv b,U _ _ _ _ ag];by_cases V:i/2=j/2
       ·rw[Zv V,Zv Zo]
       ·rw[Zi V,Zi Zo]
      ·rw[Zi b,Zi b,Zi Zo]
     ·rw[Zi e,o7];by_cases b:j%2=0
      ·rw[Zv b,Zv b,Zi Zo]
      ·rw[Zi b,Zi b,U _ _ _ _ ag];by_cases V:i/2=j/2
       ·rw[Zv V,Zv Zo]
       ·rw[Zi V,Zi Zo]
def e0(t:E α)(i j:Nat)(a:Option α):(t.set i a).get j=if i=j then a else t.get j:=QL _ _ _ _ _ Zo
def wF(l:List α):∀(i:Nat) (t:E α) (j:Nat),(ofList l i t).get j=if i<=j/\j<i+l.length then l[j-i]? else t.get j:=by induction l with|nil=>intro i t j;simp only[ofList,ZT];rw[Zi Zo]|cons a l U=>intro i t j;simp only[ofList,du];rw[U,e0];grind
def wE(t:E α):∀(n I:Nat) (l:List α),t.gs I n=some l->l.length=n/\∀i,i<n->t.get (I+i)=l[i]? :=by intro n;induction n with|zero=>intro I l h;simp[gs]at h;subst h;simp|succ n U=>intro I l h;simp only[gs]at h;grind
end E
def B9(l:List z):∀(c:E z) (I:Nat),cj c I l=E.ofList l I c:=by induction l with|nil=>intro c I;rfl|cons v l U=>intro c I;simp only[cj,E.ofList,du];exact U _ _
structure hv where
 bA:Nat
 cn:Nat
 room:Nat
 deriving Inhabited
abbrev bX:=Nat->hv
def hQ(F:bX):Fn->Fn
 | .yield l=> .yield (F l).bA|f=>f
def dz(s:List Nat):ByteArray:=⟨(s.map UInt8.ofNat).toArray⟩
mutual
def aq(F:bX):z->Value
 | .bool b=> .bool b| .int k n=> .int k n| .str s=> .string (dz s)| .ptr b I=> .pointer (some ⟨(F b).bA,(F b).cn+I,none⟩)| .bH=> .pointer none| .slice b I len cap=> .slice (some ⟨(F b).bA,(F b).cn+I,none⟩) len cap| .cq b I len aN=> .slice (some ⟨(F b).bA,(F b).cn+I,none⟩) len (((F b).room-I)/aN)| .ax=> .slice none 0 0| .map m=> .map (some (F m).bA)| .gO=> .map none| .func fn a b=> .func (hQ F fn) (bf F a).toArray (bf F b).toArray| .nilFunc=> .nilFunc| .iface t v=> .iface t (aq F v)| .nilIface=> .nilIface| .agg cs=> .agg (bf F cs).toArray| .tuple aG=> .tuple (bf F aG).toArray| .gf b I l aN=> .slice (some ⟨(F b).bA,(F b).cn+(if ((F b).room-I)/aN=l then I else I+l*aN),none⟩) 0 (((F b).room-I)/aN-l)
def bf(F:bX):List z->List Value
 |[]=>[]|v::l=>aq F v::bf F l
end
def jo(F:bX)(l:List z):bf F l=l.map (aq F):=by induction l with|nil=>rfl|cons v l U=>simp[bf,U]
def wH(Q:Nat->Prop):Fn->Prop
 | .yield l=>Q l| .func _=>True|_=>False
mutual
def bs(Q:Nat->Prop):z->Prop
 | .bool _=>True| .int _ _=>True| .str s=>∀x∈s,x<256| .ptr b _=>Q b| .bH=>True| .slice b _ _ _=>Q b| .cq b _ _ _=>Q b| .ax=>True| .map m=>Q m| .gO=>True| .func fn a b=>wH Q fn/\cz Q a/\cz Q b| .nilFunc=>True| .iface _ v=>bs Q v| .nilIface=>True| .agg cs=>cz Q cs| .tuple aG=>cz Q aG| .gf b _ _ _=>Q b
def cz(Q:Nat->Prop):List z->Prop
 |[]=>True|v::l=>bs Q v/\cz Q l
end
def md(Q:Nat->Prop)(l:List z):cz Q l↔∀v∈l,bs Q v:=by induction l with|nil=>simp[cz]|cons v l U=>simp[cz,U]
mutual
def yZ{F d:bX}{Q:Nat->Prop}(h:∀b,Q b->F b=d b):∀v,bs Q v->aq F v=aq d v
 | .bool _,_=>rfl| .int _ _,_=>rfl| .str _,_=>rfl| .ptr b I,g=>by simp only[aq,h b g]| .bH,_=>rfl| .slice b I l c,g=>by simp only[aq,h b g]| .cq b I l c,g=>by simp only[aq,h b g]| .ax,_=>rfl| .map m,g=>by simp only[aq,h m g]| .gO,_=>rfl| .func fn a b,g=>by obtain⟨f,i,j⟩:=g;have e:hQ F fn=hQ d fn:=(by cases fn<;>simp only[hQ];rw[h _ f]);simp only[aq,e,su h a i,su h b j]
 | .nilFunc,_=>rfl| .iface t v,g=>by simp only[aq,yZ h v g]| .nilIface,_=>rfl| .agg cs,g=>by simp only[aq,su h cs g]| .tuple aG,g=>by simp only[aq,su h aG g]| .gf b I l c,g=>by simp only[aq,h b g]
def su{F d:bX}{Q:Nat->Prop}(h:∀b,Q b->F b=d b):∀l,cz Q l->bf F l=bf d l
 |[],_=>rfl|v::l,g=>by simp only[bf,yZ h v g.1,su h l g.2]
end
mutual
def iV{Q c:Nat->Prop}(h:∀b,Q b->c b):∀v,bs Q v->bs c v
 | .bool _,_=>trivial| .int _ _,_=>trivial| .str _,g=>g| .ptr b _,g=>h b g| .bH,_=>trivial| .slice b _ _ _,g=>h b g| .cq b _ _ _,g=>h b g| .ax,_=>trivial| .map m,g=>h m g| .gO,_=>trivial| .func fn a b,g=>⟨by cases fn<;>first|exact h _ g.1|exact g.1,kx h a g.2.1,kx h b g.2.2⟩| .nilFunc,_=>trivial| .iface _ v,g=>iV h v g| .nilIface,_=>trivial| .agg cs,g=>kx h cs g| .tuple aG,g=>kx h aG g| .gf b _ _ _,g=>h b g
def kx{Q c:Nat->Prop}(h:∀b,Q b->c b):∀l,cz Q l->cz c l
 |[],_=>trivial|v::l,g=>⟨iV h v g.1,kx h l g.2⟩
end
open Go.RowKit (Below)
structure fy(F:bX)(Q:Nat->Prop)(n ac:Nat)(B:E z)(tmps:Array Value):Prop where
 size:tmps.size=n
 val:∀t v,dq ac t=true->B.get t=some v->tmps[t]? =some (aq F v)/\bs Q v
def ym(C:al)(fn ac:Nat):Prop:=∃f,C.P.funcs[fn]? =some f/\n7 ac f.results.toList=true
def sS(c:Code):Prop:=c=.ret\/∃id,c=.exit id
def qd(F:bX):x3->Target
 | .fn fn a=> .fn (hQ F fn) (bf F a).toArray| .collected r=> .collected (F r).bA
def hm(F:bX)(d:eD):Deferred:=⟨qd F d.target,(bf F d.args).toArray⟩
def QN(Q:Nat->Prop):x3->Prop
 | .fn fn a=>wH Q fn/\cz Q a| .collected r=>Q r
def o8(Q:Nat->Prop)(d:eD):Prop:=QN Q d.target/\cz Q d.args
def sg(st:iu)(n:Nat)(pl:hv)(aN aT ag:Nat):Prop:=match st with
 | .own=>aT=ag| .marked=>aT=ag\/aN<=aT| .grow _=>(aT=ag\/aN<=aT)/\n<=pl.room/\pl.cn+pl.room<=aN| .fG=>True/\n<=pl.room/\pl.cn+pl.room<=aN
def sg.free{st:iu}{n:Nat}{pl:hv}{aN aT ag:Nat}(h:sg st n pl aN aT ag)(a:st≠ .fG):ag<=aT\/aN<=aT:=by cases st with|own=>exact .inl (zq h.symm)|marked=>exact h.imp (λe=>zq e.symm) id|grow _=>exact h.1.imp (λe=>zq e.symm) id|fG=>grind
def dP(F:bX)(e:z×z×Nat):MapEntry:=⟨aq F e.1,aq F e.2.1,e.2.2⟩
def f7(C:al)(F:bX)(Q:Nat->Prop)(I:S)(pl:hv)(w:World):Prop:=match I with
 | .cells c n st=>∃bj ty aT ag,w.heap[pl.bA]? =some (.cells bj ty (aT,ag))/\sg st n pl bj.size aT ag/\pl.cn+n<=bj.size/\
    ∀i v,c.get i=some v->bj[pl.cn+i]? =some (aq F v)/\bs Q v
 | .map a bz=>∃bj,w.heap[pl.bA]? =some (.map bj bz)/\bj.toList=a.map (dP F)/\∀e∈a,bs Q e.1/\bs Q e.2.1| .look a=>∃(bj:Array MapEntry) (bz:Nat) (gW:List (z×z×Nat)),w.heap[pl.bA]? =some (.map bj bz)/\bj.toList=gW.map (dP F)/\(gW.map λe=>(e.1,e.2.1)).Perm a/\∀e∈gW,bs Q e.1/\bs Q e.2.1| .iH s pos=>pl.cn=0/\w.heap[pl.bA]? =some (.stringIter (dz s) pos)/\∀x∈s,x<256| .fD m f seen st=>pl.cn=0/\w.heap[pl.bA]? =some (.mapIter (m.map λb=>(F b).bA) f seen.toArray st)/\∀b,m=some b->Q b| .qZ m f n bC st h=>pl.cn=0/\Q m/\∃seen:List Nat,w.heap[pl.bA]? =some (.mapIter (some (F m).bA) f seen.toArray st)/\(bC.filter λb=> !seen.contains b).length<=n/\∀b,h=some b->uI seen=some b| .loop state pending fn n ac B params assign body aP=>∃tmps,w.heap[pl.bA]? =some (.loop ⟨state,pending,fn,tmps,params.toArray,assign,body,(F aP).bA⟩)/\fy F Q n ac B tmps/\Q aP/\
    g7 C ac assign=true/\g7 C ac body=true/\(∀c,pending=some c->sS c)/\ym C fn ac
 | .deferred g=>w.heap[pl.bA]? =some (.deferred (g.map λl=>l.map (hm F)))/\∀l,g=some l->∀d∈l,o8 Q d
def yB(I dG:S)(b e:Nat):Prop:=
 (∃c n d a,I=.cells c n .fG/\dG=.cells d a .fG)\/
 (∃c n l d a,I=.cells c n (.grow l)/\dG=.cells d a .fG/\e∈l/\a<=n)\/
 (∃c n l d a,dG=.cells d a (.grow l)/\I=.cells c n .fG/\b∈l/\n<=a)
def mH(C:al)(Q:Nat->Prop)(I:S):Prop:=(∀c n l,I=.cells c n (.grow l)->∀x∈l,Q x/\C.aB<=x)/\∀c n st,I=.cells c n st->∀i v,c.get i=some v->i<n
structure bW(C:al)(F:bX)(Q:Nat->Prop)(q:E S)(u aO:Nat)(w:World):Prop where
 aB:C.aB<=u
 lt:∀b,Q b->b<u
 mq:∀b I,H C q b=some I->b<u
 obj:∀b I,H C q b=some I->Q b->f7 C F Q I (F b) w
 sep:∀b a I dG,H C q b=some I->H C q a=some dG->Q b->Q a->b≠a->C.aB<=b->(F b).bA=(F a).bA->yB I dG b a/\(F b).cn=(F a).cn
 base:∀b I,C.aB<=b->H C q b=some I->Q b->aO<=(F b).bA
 b3:∀b I,H C q b=some I->Q b->mH C Q I
def fx(F:bX)(Q:Nat->Prop)(ab:Operand->Value)(a:Operand->Option z)(l:List Operand):Prop:=
 ∀x∈l,∀v,a x=some v->ab x=aq F v/\bs Q v
section
variable{C:al}{F:bX}{Q:Nat->Prop}{q:E S}{u aO:Nat}{w:World}
def yN(s:ByteArray):dz (s.data.toList.map (·.toNat))=s:=by
 unfold dz;rw[Ya]
 have:(UInt8.ofNat∘λx:UInt8=>x.toNat)=id:=by funext x;simp
 simp_all
def SY{α cr:Type}(f:α->Option cr):∀(l:List α) (r:List cr),qX f l=some r->r.length=l.length/\∀(i:Nat) (a:α),l[i]? =some a->∃b,r[i]? =some b/\f a=some b:=by intro l;induction l with|nil=>intro r h;simp[qX]at h;subst h;simp|cons a l U=>intro r h;simp only[qX]at h;grind
def TM(F:bX)(Q:Nat->Prop):∀(n:Nat) (v:Value) (a:z),pu n v=some a->v=aq F a/\bs Q a:=by
 intro n;induction n with
 |zero=>intro v a h;simp[pu]at h|succ n U=>
  have list:∀(l:List Value) (r:List z),qX (pu n) l=some r->l=bf F r/\cz Q r:=by
   intro l r h;obtain⟨w,d⟩:=SY _ l r h;constructor
   ·rw[jo];apply Y7;grind
   ·rw[md];intro v m;obtain⟨i,ag⟩:=Z1.1 m;have k:i<l.length:=(by have:=(Ze.1 ag).1;omega);obtain⟨b,W,j⟩:=d i l[i] (Zb k);rw[ag]at W;simp at W;subst W;exact(U _ _ j).2
  intro v a h;unfold pu at h;split at h<;>(try(simp at h;subst h;simp[aq,bs,hQ,bf,wH,cz];done))
  ·simp at h;subst h;refine⟨by simp only[aq];rw[yN], ?_⟩;intro x p;obtain⟨o,_,rfl⟩:=ZC.1 p;exact o.toNat_lt
  ·rename_i t v;split at h
   ·rename_i s f;simp at h;subst h;obtain⟨e,g⟩:=U _ _ f;exact⟨by simp only[aq,e],g⟩
   ·simp at h
  ·rename_i cs;split at h
   ·rename_i l c;simp at h;subst h;obtain⟨e,g⟩:=list _ _ c;exact⟨by simp only[aq];rw[<-e],g⟩
   ·simp at h
  ·rename_i cs;split at h
   ·rename_i l c;simp at h;subst h;obtain⟨e,g⟩:=list _ _ c;exact⟨by simp only[aq];rw[<-e],g⟩
   ·simp at h
  ·simp at h
def xc{v:Value}{a:z}(h:ra v=some a):v=aq F a/\bs Q a:=TM F Q _ _ _ h
def jT(b I i:Nat):(⟨b,I,none⟩:Addr).add i=⟨b,I+i,none⟩:=by unfold Addr.add;split<;>simp_all
def OC(K:bW C F Q q u aO w){b:Nat}(W:Q b){c:E z}(h:cellsOf C q b=some c):
 ∃bj ty aT ag,w.heap[(F b).bA]? =some (.cells bj ty (aT,ag))/\∀i v,c.get i=some v->bj[(F b).cn+i]? =some (aq F v)/\bs Q v:=by
 unfold cellsOf at h;split at h
 ·rename_i d n st a;simp at h;subst h;obtain⟨bj,ty,aT,ag,e,_,_,f⟩:=K.obj b _ a W;grind
 ·grind
def E9(K:bW C F Q q u aO w){b:Nat}(W:Q b){c:E z}(h:cellsOf C q b=some c){I:Nat}{v:z}(g:c.get I=some v):
 w.cell? ⟨(F b).bA,(F b).cn+I,none⟩=some (aq F v)/\bs Q v:=by
 obtain⟨bj,ty,aT,ag,a,d⟩:=OC K W h;obtain⟨e,f⟩:=d I v g;exact⟨by simp[World.cell?,a,e],f⟩
def v6(K:bW C F Q q u aO w){b:Nat}(W:Q b){c:E z}(h:cellsOf C q b=some c){I n:Nat}{l:List z}(k:c.gs I n=some l):
 (loadCells ⟨(F b).bA,(F b).cn+I,none⟩ n).run C.P w=.ok (bf F l).toArray w/\cz Q l:=by
 obtain⟨f,g⟩:=E.wE _ _ _ _ k;have key:∀i v,l[i]? =some v->w.cell? ⟨(F b).bA,(F b).cn+I+i,none⟩=some (aq F v)/\bs Q v:=by
  intro i v ag;have m:i<n:=by grind
  have:=E9 K W h (v:=v) (by rw[g i m,ag]);grind
 constructor
 ·have p:=run_loadCells_list (P:=C.P) w ⟨(F b).bA,(F b).cn+I,none⟩ (bf F l) (λj v d=>by
   rw[jT];rw[jo]at d;cases e:l[j]? with
   |none=>grind|some a=>simp[e]at d;subst d;exact(key j a e).1)
  have r:(bf F l).length=n:=by rw[jo,Zj,f]
  grind
 ·rw[md];intro v d;obtain⟨i,ag⟩:=Z1.1 d;exact(key i v ag).2
def acy{t n:Nat}(h:fk C t=some n):∃i,C.P.info? t=some i/\i.size=n:=by unfold fk at h;grind
def iG{t n:Nat}(h:fk C t=some n)(w:World):(sizeOf t).run C.P w=.ok n w:=by obtain⟨i,ag,rfl⟩:=acy h;simp[sizeOf,typeInfo,ag]
def pF{t:Nat}{aj:z}(h:kg C t=some aj)(F:bX)(Q:Nat->Prop)(w:World):(zeroValue t).run C.P w=.ok (aq F aj) w/\bs Q aj:=by unfold kg at h;cases ag:C.P.info? t with|none=>grind|some i=>simp only[ag]at h;cases a:i.zero with|none=>grind|some v=>simp only[a]at h;obtain⟨e,g⟩:=xc (F:=F) h;exact⟨by simp[zeroValue,typeInfo,ag,a,e],g⟩
def xC{t:Nat}{b:Bool}(h:qJ C t=some b)(w:World):(isAgg t).run C.P w=.ok b w:=by unfold qJ at h;cases a:C.P.underlying t with|none=>grind|some d=>simp only[a]at h;cases d<;>simp at h<;>subst h<;>simp[isAgg,run_underlying a]
def h7{wr:List (Nat×Nat)}{x:Operand}{c:gh}(h:hK wr x=some c)(ad:List (Nat×z))(B:E z):gJ c ad B=fA wr ad B x:=by
 cases x with
 |tmp t=>
  simp only[hK]at h;cases b:cL wr t with
  |none=>simp[b]at h;subst h;simp[gJ,fA,b]|some j=>simp[b]at h;subst h;simp[gJ,fA,b]
 |const v=>
  simp only[hK]at h;cases d:ra v with
  |none=>grind|some a=>simp[d]at h;subst h;simp[gJ,fA,d]
 |global g=>simp[hK]at h;subst h;rfl|func f=>simp[hK]at h;subst h;rfl
def P2{wr:List (Nat×Nat)}(ad:List (Nat×z))(B:E z):∀{l:List Operand}{cs:List gh}{aG:List z},tr wr l=some cs->oY ad B cs=some aG->
 aG.length=l.length/\∀(i:Nat) x,l[i]? =some x->∃v,aG[i]? =some v/\fA wr ad B x=some v:=by
 intro l;induction l with|nil=>intro cs aG d c;simp[tr]at d;subst d;simp[oY]at c;subst c;simp|cons x l U=>intro cs aG d c;simp only[tr]at d;cases h:hK wr x with|none=>grind|some k=>cases g:tr wr l with|none=>grind|some j=>simp[h,g]at d;subst d;simp only[oY]at c;cases f:gJ k ad B with|none=>grind|some v=>cases K:oY ad B j with|none=>simp[f,K]at c|some r=>simp[f,K]at c;subst c;obtain⟨a,b⟩:=U g K;refine⟨by simp[a],λi o e=> ?_⟩;cases i with|zero=>simp at e;subst e;exact⟨v,Zs,by rw[<-h7 h];exact f⟩|succ i=>simp at e;simpa using b i o e
def P0{ab:Operand->Option z}:∀{l:List Operand}{aG:List z},jZ ab l=some aG->
 aG.length=l.length/\∀(i:Nat) x,l[i]? =some x->∃v,aG[i]? =some v/\ab x=some v:=by
 intro l;induction l with|nil=>intro aG h;simp[jZ]at h;subst h;simp|cons x l U=>intro aG h;simp only[jZ]at h;grind
def GV{ab:Operand->Value}{h:Operand->Option z}{l:List Operand}{aG:List z}(g:fx F Q ab h l)(j:aG.length=l.length)
 (d:∀(i:Nat) x,l[i]? =some x->∃v,aG[i]? =some v/\h x=some v):l.map ab=bf F aG/\cz Q aG:=by
 constructor
 ·rw[jo];apply Y7;intro i;rw[Zt,Zt];cases f:l[i]? with|none=>grind|some x=>obtain⟨v,c,a⟩:=d i x f;rw[c];simp[(g x (Zl f) v a).1]
 ·rw[md];intro v c;obtain⟨i,ag⟩:=Z1.1 c;have e:i<l.length:=by grind
  obtain⟨R,b,a⟩:=d i l[i] (Zb e);rw[ag]at b;simp at b;subst b;exact(g _ (YY e) v a).2
def lB{ab:Operand->Value}{b:Operand->Option z}{a:Array Operand}{aG:List z}(e:fx F Q ab b a.toList)(h:jZ b a.toList=some aG):
 a.map ab=(bf F aG).toArray/\cz Q aG:=by
 obtain⟨c,d⟩:=P0 h;obtain⟨f,g⟩:=GV e c d;grind
def IW(k:IntKind)(n:Int):iq k n=k.wrap n:=by
 cases k<;>simp only[iq]<;>try rfl
 simp only[cY,IntKind.wrap,IntKind.bits,IntKind.signed,Zf,ge_iff_le];grind
@[simp] def adA(k:IntKind)(n:Int):gj k n=some (.int k (k.wrap n)):=by simp[gj,IW]
@[simp] def Gl(k:IntKind)(n:Int):hC k n=some (.int k n):=by simp[hC]
@[simp] def yL(b:Bool):iR b=some (.bool b):=by cases b<;>rfl
@[simp] def ss{α:Type _}(c:Bool)(a:Option α)(v:α):ba c none a=some v↔c=false/\a=some v:=by cases c<;>simp
@[simp] def uz(x o:Int):k9 x o=decide (x=o):=by
  rw[Yh,Zf];cases x<;>cases o
  ·exact⟨λh=>by rw[Zn h],λh=>by cases h;exact YW _⟩
  ·exact⟨(λh=>by cases h),(λh=>by cases h)⟩
  ·exact⟨(λh=>by cases h),(λh=>by cases h)⟩
  ·exact⟨λh=>by rw[Zn h],λh=>by cases h;exact YW _⟩
@[simp] def la(x o:Int):m3 x o=decide (x<o):=by
  rw[Yh,Zf];cases x with
  |ofNat a=>cases o with
   |ofNat b=>show Nat.blt a b=true↔(a:Int)<(b:Int);simp[Nat.blt];omega|negSucc b=>show false=true↔(a:Int)<Int.negSucc b;simp;omega
  |negSucc a=>cases o with|ofNat b=>show true=true↔Int.negSucc a<(b:Int);simp;omega|negSucc b=>show Nat.blt b a=true↔Int.negSucc a<Int.negSucc b;simp;omega
@[simp] def RY(k a:IntKind):iZ k a=decide (k=a):=by cases k<;>cases a<;>rfl
@[simp] def ads(a b:Bool):so a b=(a==b):=by cases a<;>cases b<;>rfl
def NF{op:BinOp}{k:IntKind}{x o:Int}{v:z}(t:TypeId)(h:gH op k x o=some v)(b:gL op=false):
 (binOp op t (.int k x) (.int k o)).run C.P w=.ok (aq F v) w/\bs Q v:=by
 cases op<;>simp[gH,gL,binOp,Op.intDiv,Op.intBits,Op.intCmp]at h b ⊢ <;>
  first
  |(subst h;simp[aq];done)|(obtain⟨a,h⟩:=h;subst h;simp[aq,bs,a];done)|(subst h;exact⟨rfl,trivial⟩)|(subst h;refine⟨?_,trivial⟩;simp only[aq];congr 1;rw[Yh];simp;done)
def NM{op:BinOp}{k b:IntKind}{x o:Int}{v:z}(t:TypeId)(h:tN op k x o=some v):
 (binOp op t (.int k x) (.int b o)).run C.P w=.ok (aq F v) w/\bs Q v:=by
 unfold tN at h;simp only[la,ss,Zc]at h;obtain⟨a,h⟩:=h;cases op<;>simp[binOp,Op.shift,a]at h ⊢;all_goals(subst h;simp[aq,bs])
def EC{op:BinOp}{x o v:z}(t:TypeId)(h:aK op x o=some v):
 (binOp op t (aq F x) (aq F o)).run C.P w=.ok (aq F v) w/\bs Q v/\∃k a f b,x=.int k a/\o=.int f b:=by
 unfold aK at h;split at h
 ·rename_i k a f b;by_cases c:gL op=true
  ·simp only[c]at h;obtain⟨d,e⟩:=NM (F:=F) (w:=w) t h;exact⟨d,e,_,_,_,_,rfl,rfl⟩
  ·have c:gL op=false:=(by grind);simp only[c,ga,RY,cO,Zf]at h;obtain⟨rfl,h⟩:=h;obtain⟨d,e⟩:=NF (F:=F) (w:=w) t h c;exact⟨d,e,_,_,_,_,rfl,rfl⟩
 ·grind
def vA(F:bX)(Q:Nat->Prop)(P:Program)(w:World)(s:Sem Next)(v:z):Prop:=s.run P w=.ok (.value (aq F v)) w/\bs Q v
def h6{P:Program}{s:Sem Value}{v:z}(h:s.run P w=.ok (aq F v) w/\bs Q v):vA F Q P w (do pure (.value (<-s))) v:=by refine⟨?_,h.2⟩;simp_all
def ED(K:bW C F Q q u aO w){t:TypeId}(i:qJ C t=some false){a v:z}(f:bs Q a)(h:ay C q a=some v):
 (Instr.loadAt t (aq F a)).run C.P w=.ok (aq F v) w/\bs Q v:=by
 unfold ay at h;split at h
 ·rename_i b I;split at h
  ·rename_i c g;obtain⟨d,e⟩:=E9 K f g h;refine⟨?_,e⟩;simp[Instr.loadAt,Instr.sureAddr,aq,loadVar,xC i,d]
  ·grind
 ·grind
def EE(K:bW C F Q q u aO w){t:TypeId}{n:Nat}(k:qJ C t=some true)(j:fk C t=some n){a v:z}(f:bs Q a)(h:ca C q n a=some v):
 (Instr.loadAt t (aq F a)).run C.P w=.ok (aq F v) w/\bs Q v:=by
 unfold ca at h;split at h
 ·rename_i b I;split at h
  ·rename_i c g;split at h
   ·rename_i l i;simp at h;subst h;obtain⟨d,e⟩:=v6 K f g i;refine⟨?_,e⟩;simp[Instr.loadAt,Instr.sureAddr,aq,loadVar,xC k,iG j,d]
   ·grind
  ·grind
 ·grind
def EF(K:bW C F Q q u aO w){t:TypeId}{a v:z}(c:bs Q a)(h:g4 C q t a=some v):
 (Instr.loadAt t (aq F a)).run C.P w=.ok (aq F v) w/\bs Q v:=by
 unfold g4 at h;split at h
 ·rename_i s b d;exact EE K b d c h
 ·rename_i b;exact ED K b c h
 ·grind
def hy{a b:Nat}(h:Nat.blt a b=true):a<b:=by simp_all
def e7{a b:Nat}(h:Nat.ble a b=true):a<=b:=by simp_all
def q1{v:z}{n:Nat}(h:hc v=some n):∃k,v=.int k (Int.ofNat n):=by
 unfold hc at h;split at h
 ·rename_i k aj;split at h
  ·simp_all
  ·grind
 ·grind
def P7{s:TypeId}{d:Array Field}{f aj:Nat}{c:Field}(i:C.P.underlying s=some (.struct d))(l:d.toList[f]? =some c)
 (j:fk C c.type=some aj)(k:aj≠0){a v:z}(e:bs Q a)(h:es c.offset a=some v):
 (Instr.fieldAt s (aq F a) f).run C.P w=.ok (aq F v) w/\bs Q v:=by
 unfold es at h;split at h
 ·rename_i b I;simp at h;subst h;have g:d[f]? =some c:=by grind
  refine⟨?_,e⟩;simp[Instr.fieldAt,run_underlying i,g,Instr.sureAddr,aq,fieldPlace,iG j,k,jT,Ye]
 ·grind
def RH{t:TypeId}{n aN i:Nat}{ct:TypeId}(f:C.P.underlying t=some (.array n ct))(g:fk C ct=some aN)
 {a v:z}{k:IntKind}(d:bs Q a)(h:vo n aN a i=some v):
 (Instr.indexAt t (aq F a) (.int k (Int.ofNat i))).run C.P w=.ok (aq F v) w/\bs Q v:=by
 unfold vo at h;split at h
 ·rename_i b I;simp only[cO,Zh]at h;obtain⟨c,rfl⟩:=h;have e:=hy c;refine⟨?_,d⟩;simp[Instr.indexAt,asIntOf,run_underlying f,Instr.sureAddr,aq,iG g,e,jT,Ye]
 ·grind
def RK{t:TypeId}{aN i:Nat}{ct:TypeId}(f:C.P.underlying t=some (.slice ct))(g:fk C ct=some aN)
 {a v:z}{k:IntKind}(e:bs Q a)(h:pL aN a i=some v):
 (Instr.indexAt t (aq F a) (.int k (Int.ofNat i))).run C.P w=.ok (aq F v) w/\bs Q v:=by
 unfold pL at h;split at h
 ·rename_i b I n _;simp only[cO,Zh]at h;obtain⟨c,rfl⟩:=h;have d:=hy c;refine⟨?_,e⟩;simp[Instr.indexAt,asIntOf,run_underlying f,aq,iG g,d,jT,Ye]
 ·rename_i b I n _;simp only[cO,Zh]at h;obtain⟨c,rfl⟩:=h;have d:=hy c;refine⟨?_,e⟩;simp[Instr.indexAt,asIntOf,run_underlying f,aq,iG g,d,jT,Ye]
 ·simp at h
def adq{a v:z}(d:bs Q a)(h:ht a=some v):v=a/\(∀oper:Oper,∀ab:Operand->Value,∀x,oper.op=.nilCheck x->ab x=aq F a->(execOp ab oper).run C.P w=.ok (.value (aq F v)) w):=by
 unfold ht at h;split at h
 ·simp at h;subst h;refine⟨rfl,λoper ab x b c=> ?_⟩;simp[execOp,b,c,aq]
 ·split at h
  ·simp at h;subst h;refine⟨rfl,λoper ab x b c=> ?_⟩;simp[execOp,b,c,aq,hQ]
  ·simp at h;subst h;refine⟨rfl,λoper ab x b c=> ?_⟩;simp[execOp,b,c,aq,hQ]
  ·simp at h
 ·simp at h;subst h;refine⟨rfl,λoper ab x b c=> ?_⟩;simp[execOp,b,c,aq]
 ·simp at h
def adp{i:Nat}{a v:z}(b:bs Q a)(h:hZ i a=some v):(Instr.extract (aq F a) i).run C.P w=.ok (aq F v) w/\bs Q v:=by
 unfold hZ at h;split at h
 ·rename_i aG;rw[jz]at h;refine⟨?_,(md Q aG).1 b v (Zl h)⟩;simp[Instr.extract,aq,jo,h]
 ·grind
def FM{ab:Operand->Value}{e:Operand->Option z}:∀{l:List (Nat×Operand)}{b4:List (Nat×z)},fx F Q ab e (l.map (·.2))->nO e l=some b4->
 l.map (λx=>(x.1,ab x.2))=b4.map (λx=>(x.1,aq F x.2))/\∀x∈b4,bs Q x.2:=by
 intro l;induction l with|nil=>intro b4 _ h;simp[nO]at h;subst h;simp|cons a l U=>intro b4 k h;obtain⟨i,x⟩:=a;simp only[nO]at h;cases g:e x with|none=>grind|some v=>cases f:nO e l with|none=>grind|some r=>simp[g,f]at h;subst h;obtain⟨a,b⟩:=U (λo j=>k o (by simp at j ⊢;exact .inr j)) f;obtain⟨c,d⟩:=k x Zs v g;grind
def l6(F:bX)(v:z):(aq F v).cells=(bf F v.cells).toArray:=by cases v<;>simp[aq,Value.cells,z.cells,bf]
def lF{v:z}(h:bs Q v):cz Q v.cells:=by cases v with|agg cs=>exact h|_=>exact⟨h,trivial⟩
def Qm(F:bX):∀(aG:List z) (cs:List z) (off k:Nat),
 ((bf F aG).zipIdx k).foldl (λ(cs:Array Value) (x:Value×Nat)=>cs.setIfInBounds (off+x.2) x.1) (bf F cs).toArray=(bf F (ih cs (off+k) aG)).toArray:=by
 intro aG;induction aG with
 |nil=>intro cs off k;rfl|cons v aG U=>
  intro cs off k;simp only[bf,List.zipIdx_cons,Z6]
  have:(bf F cs).toArray.setIfInBounds (off+k) (aq F v)=(bf F (cs.set (off+k) v)).toArray:=by simp[jo]
  rw[this,U];rfl
def QQ{cs:List z}{i:Nat}{v:z}(h:cz Q cs)(a:bs Q v):cz Q (cs.set i v):=by rw[md]at h ⊢;grind
def QR:∀(aG cs:List z) (I:Nat),cz Q cs->cz Q aG->cz Q (ih cs I aG):=by intro aG;induction aG with|nil=>intro cs I h _;exact h|cons v aG U=>intro cs I h a;exact U _ _ (QQ h a.1) a.2
def Ai{e xm:Nat->Option (Nat×Nat)}(l:∀i x,e i=some x->xm i=some x):∀(b4:List (Nat×z)) (cs r:List z),cz Q cs->(∀x∈b4,bs Q x.2)->
 o1 e cs b4=some r->Instr.fill xm (bf F cs).toArray (b4.map λx=>(x.1,aq F x.2))=some (bf F r).toArray/\cz Q r:=by
 intro b4;induction b4 with
 |nil=>intro cs r h _ c;simp[o1]at c;subst c;exact⟨rfl,h⟩|cons p b4 U=>
  intro cs r h g c;obtain⟨i,v⟩:=p;simp only[o1]at c;cases j:e i with
  |none=>grind|some x=>
   obtain⟨off,size⟩:=x;simp only[j,cO,Zu]at c;obtain⟨⟨d,f⟩,c⟩:=c;have d:=Zn d;have f:=e7 f;have k:=g (i,v) Zs;obtain⟨a,b⟩:=U (ih cs off v.cells) r (QR _ _ _ h (lF k)) (λx m=>g x (by simp[m])) c;refine⟨?_,b⟩;simp only[ZG,Instr.fill,l _ _ j,l6];have n:(bf F v.cells).length=size:=(by rw[jo,Zj,d]);have s:(bf F cs).length=cs.length:=(by rw[jo,Zj]);rw[Zi]
   ·rw[<-a];congr 1;have:=Qm F v.cells cs off 0;simp;simpa using this
   ·simp;omega
def abp{α cr:Type}(P:Program)(w:World)(f:α->Sem cr)(g:α->cr):∀(l:List α),(∀a∈l,(f a).run P w=.ok (g a) w)->(l.mapM f).run P w=.ok (l.map g) w:=by intro l;induction l with|nil=>simp_all|cons a l U=>simp_all
def acv{a:List Field}{i:Nat}{x:Nat×Nat}(h:BX C a i=some x):∃f s,a[i]? =some f/\fk C f.type=some s/\x=(f.offset,s):=by unfold BX at h;rw[jz]at h;grind
def tM{t:TypeId}{cs:List z}{off:Nat}{v:z}(b:cz Q cs)(h:p8 C t cs off=some v):
 (part t (bf F cs).toArray off).run C.P w=.ok (aq F v) w/\bs Q v:=by
 unfold p8 at h;split at h
 ·rename_i s a c;simp at h;subst h;constructor
  ·simp only[part,Sem.run_bind,xC a,Result.andThen_ok,ZL,iG c,Sem.run_pure,aq,jo];simp_all
  ·simp only[bs];rw[md]at b ⊢;exact λx d=>b x (zn (zo d))
 ·rename_i a;rw[jz]at h;constructor
  ·simp[part,xC a,jo,h]
  ·exact(md Q cs).1 b v (Zl h)
 ·simp at h
def NE{t:TypeId}{x i v:z}(e:bs Q x)(h:vO C t x i=some v):(Instr.index t (aq F x) (aq F i)).run C.P w=.ok (aq F v) w/\bs Q v:=by
 unfold vO at h;split at h
 ·grind
 ·rename_i n p;obtain⟨k,rfl⟩:=q1 p;split at h
  ·rename_i m ct cs b;split at h
   ·rename_i aN r;simp only[cO]at h;obtain⟨f,g⟩:=h;have a:=hy f;obtain⟨j,l⟩:=tM (F:=F) (w:=w) e g;refine⟨?_,l⟩;simp[Instr.index,asIntOf,aq,run_underlying b,a,iG r,j]
   ·simp at h
  ·rename_i s b;rw[jz]at h;split at h
   ·rename_i c d;simp at h;subst h;refine⟨?_,trivial⟩;have W:(dz s)[n]? =some (UInt8.ofNat c):=(by show(dz s).data[n]? =_;simp[dz,d]);have a:=e c (Zl d);simp[Instr.index,asIntOf,aq,run_underlying b,W,zc a]
   ·simp at h
  ·simp at h
def NQ{op:UnOp}{x v:z}(h:dX op x=some v):(Op.unary op (aq F x)).run C.P w=.ok (aq F v) w/\bs Q v:=by
 unfold dX at h;split at h
 ·rename_i k n;simp[gH]at h;subst h;exact⟨by simp[Op.unary,Op.intArith,aq],trivial⟩
 ·rename_i k n;simp[gH]at h;subst h;exact⟨rfl,trivial⟩
 ·simp at h;subst h;exact⟨rfl,trivial⟩
 ·grind
def TO:∀{l:List Field},xd C l=true->∀f∈l,∃s,fk C f.type=some s:=by intro l;induction l with|nil=>grind|cons a l U=>intro h f b;simp only[xd,Zu]at h;grind
def Ny{t:TypeId}{b4:List (Nat×z)}{v:z}(k:∀x∈b4,bs Q x.2)(h:vL C t b4=some v):
 (Instr.build t ((b4.map λx=>(x.1,aq F x.2)).toArray)).run C.P w=.ok (aq F v) w/\bs Q v:=by
 unfold vL at h;split at h
 ·grind
 ·rename_i aj N;obtain⟨l,m⟩:=pF N F Q w;split at h
  ·rename_i d g;simp only[cO]at h;obtain⟨G,h⟩:=h;split at h
   ·rename_i cs e;simp at h;subst h;have A:(d.mapM λf=>do pure (f.offset, <-sizeOf f.type):Sem (Array (Nat×Nat))).run C.P w=.ok (d.toList.map λf=>(f.offset,(fk C f.type).getD 0)).toArray w:=by
     rw[Array.mapM_eq_mapM_toList,Sem.run_map,abp C.P w _ (λf:Field=>(f.offset,(fk C f.type).getD 0)) _ (λf r=>by
      obtain⟨s,c⟩:=TO G f r;simp[iG c,c])]
     rfl
    obtain⟨a,b⟩:=Ai (F:=F) (xm:=λi=>((d.toList.map λf=>(f.offset,(fk C f.type).getD 0)).toArray)[i]?) (λi x L=>by
     obtain⟨f,s,j,p,rfl⟩:=acv L;simp at j;simp[j,p]) b4 aj.cells cs (lF m) k e
    refine⟨?_,b⟩;simp only[Instr.build,Sem.run_bind,l,Result.andThen_ok,run_underlying g,A,l6,a,aq,Sem.run_pure]
   ·simp at h
  ·rename_i n ct g;split at h
   ·rename_i s c;split at h
    ·rename_i cs e;simp at h;subst h;obtain⟨a,b⟩:=Ai (F:=F) (λ_ _ h=>h) b4 aj.cells cs (lF m) k e;refine⟨?_,b⟩;simp[Instr.build,l,run_underlying g,iG c,l6,a,aq]
    ·simp at h
   ·simp at h
  ·simp at h
def Hq{a b:Nat}(c:a<256)(W:b<256)(h:UInt8.ofNat a=UInt8.ofNat b):a=b:=by have:=congrArg UInt8.toNat h;simp at this;omega
def uV:∀(x o:List Nat),hH x o=true↔x=o
 |[],[]=>by simp[hH]|[],_::_=>by simp[hH]|_::_,[]=>by simp[hH]|a::x,b::o=>by simp only[hH,Zu,uV x o,zy];exact⟨λ⟨h,e⟩=>⟨Zn h,e⟩,λ⟨h,e⟩=>⟨by rw[h];exact YW _,e⟩⟩
def SW:∀{x o:List Nat},(∀a∈x,a<256)->(∀a∈o,a<256)->x.map UInt8.ofNat=o.map UInt8.ofNat->x=o:=by intro x;induction x with|nil=>simp_all|cons a x U=>intro o e f h;cases o with|nil=>grind|cons b o=>simp only[ZG,zy]at h;rw[Hq (e a Zs) (f b Zs) h.1,U (λc d=>e c (by simp[d])) (λc d=>f c (by simp[d])) h.2]
def v1(s:List Nat):(dz s).toList=s.map UInt8.ofNat:=by rw[ByteArray.toList_eq];simp[dz]
def BW{x o:List Nat}(b:∀a∈x,a<256)(c:∀a∈o,a<256):((dz x).toList==(dz o).toList)=hH x o:=by rw[Yh,uV,zz,v1,v1];exact⟨SW b c,λh=>by rw[h]⟩
def Ik:∀{x o:List Nat},(∀a∈x,a<256)->(∀a∈o,a<256)->Op.bytesLess (x.map UInt8.ofNat) (o.map UInt8.ofNat)=ps x o
 |[],[],_,_=>rfl|[],_::_,_,_=>rfl|_::_,[],_,_=>rfl|a::x,b::o,e,f=>by
  have j:=e a Zs;have W:=f b Zs;have U:=Ik (λc d=>e c (Zw _ d)) (λc d=>f c (Zw _ d));simp only[ZG,Op.bytesLess,ps,U];have g:decide (UInt8.ofNat a<UInt8.ofNat b)=Nat.blt a b:=by rw[Yh,Zf,UInt8.lt_iff_toNat_lt];simp[Nat.blt];omega
  have i:(UInt8.ofNat a==UInt8.ofNat b)=Nat.beq a b:=by rw[Yh,zz];exact⟨λh=>by rw[Hq j W h];exact YW _,λh=>by rw[Zn h]⟩
  rw[g,i]
def xr(K:bW C F Q q u aO w){b I:Nat}(W:Q b)(h:pm C q b I=true):
 ∃c n st bj ty aT ag,H C q b=some (.cells c n st)/\I<n/\w.heap[(F b).bA]? =some (.cells bj ty (aT,ag))/\sg st n (F b) bj.size aT ag/\(F b).cn+n<=bj.size/\st≠ .fG:=by
 unfold pm at h;split at h
 ·grind
 ·rename_i c n st a d;obtain⟨bj,ty,aT,ag,f,g,i,_⟩:=K.obj b _ d W;exact⟨c,n,st,bj,ty,aT,ag,d,hy (by simpa using h),f,g,i,λe=>(by subst e;first|exact a _ d|exact a _ rfl|exact a rfl|exact a d|simp_all)⟩
 ·grind
def HD{b I:Nat}(h:te C q b I=true):pm C q b I=true/\C.aB<=b/\∃c n,H C q b=some (.cells c n .own):=by
 unfold te at h;unfold pm;split at h
 ·rename_i c n a;simp only[a,Zu]at h ⊢;exact⟨h.2,e7 h.1,c,n,rfl⟩
 ·grind
def BL{r:Nat}{bj:Array Value}{ty:TypeId}{f:Nat×Nat}(h:w.heap[r]? =some (.cells bj ty f)):w.shape? r=some (ty,bj.size):=by simp[World.shape?,h]
def H4{P:Program}{p V:Nat}{x o:Nat}{aL bt:Array Value}{t1 r:TypeId}{bw h b i:Nat}(j:p≠V)
 (a:w.heap[p]? =some (.cells aL t1 (bw,h)))(c:w.heap[V]? =some (.cells bt r (b,i)))(t:h<=bw)(A:x<aL.size)(C:o<bt.size)(v:i<=b\/bt.size<=b):
 (sameAddr ⟨p,x,none⟩ ⟨V,o,none⟩).run P w=.ok false w/\(sameAddr ⟨V,o,none⟩ ⟨p,x,none⟩).run P w=.ok false w:=by
 have d:w.frozen? ⟨p,x,none⟩=false:=by simp[World.frozen?,a];omega
 have f:w.frozen? ⟨V,o,none⟩=false:=by simp[World.frozen?,c];omega
 have g:w.frozen? ⟨p,aL.size,none⟩=false:=by simp[World.frozen?,a];omega
 have k:=BL a;have l:=BL c;have s:aL.size≠0:=Zo;have m:bt.size≠0:=Zo;have n:V≠p:=λe=>j e.symm;constructor
 ·simp[sameAddr,j,d,f,g,noView,viewAt,k,l,mayBeOne,stringish,m]
 ·simp[sameAddr,n,d,f,g,noView,viewAt,k,l,mayBeOne,stringish,s,m]
def aax(K:bW C F Q q u aO w){b I a dG:Nat}{r:Bool}(W:Q b)(f:Q a)(h:ptrEq C q b I a dG=some r):
 (sameAddr ⟨(F b).bA,(F b).cn+I,none⟩ ⟨(F a).bA,(F a).cn+dG,none⟩).run C.P w=.ok r w:=by
 unfold ptrEq at h;rw[ee]at h;split at h
 ·rename_i e;subst e;simp at h;subst h;simp only[sameAddr,YL,ZL,Sem.run_pure];congr 1;rw[Yh,zz];constructor
  ·intro h;simp at h;rw[h];exact YW _
  ·intro h;rw[Zn h]
 ·rename_i N;simp only[cO,Y5,Zu,Zh]at h;obtain⟨h,rfl⟩:=h;rcases h with ⟨i,j⟩|⟨i,j⟩
  ·obtain⟨k,l,c,n,m⟩:=HD i;obtain⟨bV,ap,v,aL,t1,bw,T0,d,T2,x,G,a7,_⟩:=xr K W k;obtain⟨b0,aw,P,bt,X,O,T1,g,T3,A,L,bl,t⟩:=xr K f j;have s:v=.own:=(by rw[m]at d;cases d;rfl);subst s;have p:(F b).bA≠(F a).bA:=(by intro e;rcases(K.sep b a _ _ d g W f N l e).1 with ⟨_,_,_,_,V,_⟩|⟨_,_,_,_,_,V,_⟩|⟨_,_,_,_,_,_,V,_⟩<;>cases V);exact(H4 p x A (zq G.symm) Zo Zo (L.free t)).1
  ·obtain⟨k,l,c,n,m⟩:=HD i;obtain⟨bV,ap,v,aL,t1,bw,T0,d,T2,x,G,a7,_⟩:=xr K f k;obtain⟨b0,aw,P,bt,X,O,T1,g,T3,A,L,bl,t⟩:=xr K W j;have s:v=.own:=(by rw[m]at d;cases d;rfl);subst s;have p:(F a).bA≠(F b).bA:=(by intro e;rcases(K.sep a b _ _ d g f W (λV=>N V.symm) l e).1 with ⟨_,_,_,_,V,_⟩|⟨_,_,_,_,_,V,_⟩|⟨_,_,_,_,_,_,V,_⟩<;>cases V);exact(H4 p x A (zq G.symm) Zo Zo (L.free t)).2
def NB{eq:Nat->z->z->Option Bool}{d:Nat}(i:∀t x o r,bs Q x->bs Q o->eq t x o=some r->(Op.equalIn d t (aq F x) (aq F o)).run C.P w=.ok r w):
 ∀(f0:List Field) (c g:List z) (r:Bool),cz Q c->cz Q g->p6 C eq f0 c g=some r->(Op.eqFields d (bf F c).toArray (bf F g).toArray f0).run C.P w=.ok r w:=by
 intro f0;induction f0 with
 |nil=>intro c g r _ _ h;simp[p6]at h;subst h;simp[Op.eqFields]|cons f f0 U=>
  intro c g r k l h;simp only[p6,ss,beq_eq_false_iff_ne]at h;obtain⟨j,h⟩:=h;split at h
  ·rename_i a b m W;obtain⟨aL,bt⟩:=tM (F:=F) (w:=w) k m;obtain⟨bc,bp⟩:=tM (F:=F) (w:=w) l W;split at h
   ·rename_i e;simp only[Op.eqFields,j,ne_eq,ZO,ZL,Sem.run_bind,aL,bc,i _ _ _ _ bt bp e,Result.andThen_ok];exact U c g r k l h
   ·rename_i e;simp at h;subst h;simp only[Op.eqFields,j,ne_eq,ZO,ZL,Sem.run_bind,aL,bc,i _ _ _ _ bt bp e,Result.andThen_ok,YK,Sem.run_pure]
   ·simp at h
  ·simp at h
def yD(K:bW C F Q q u aO w):∀(d f:Nat) (t:Nat) (x o:z) (r:Bool),d<=f->bs Q x->bs Q o->gn C q d t x o=some r->
 (Op.equalIn f t (aq F x) (aq F o)).run C.P w=.ok r w:=by
 intro d;induction d with
 |zero=>intro f t x o r _ _ _ h;simp[gn]at h|succ d U=>
  intro f t x o r ai g j h;obtain⟨f,rfl⟩:∃e,f=e+1:=⟨f-1,Zo⟩;unfold gn at h;split at h
  ·rename_i c;simp at h;subst h;simp[Op.equalIn,run_underlying c,aq]
  ·rename_i c;simp at h;obtain⟨rfl,rfl⟩:=h;simp[Op.equalIn,run_underlying c,aq];rfl
  ·rename_i a b c;simp at h;subst h;rw[aq,aq,run_equalIn_string w f t _ _ c,BW g j]
  ·rename_i c;simp at h;subst h;simp[Op.equalIn,run_underlying c,aq]
  ·rename_i c;simp at h;subst h;simp[Op.equalIn,run_underlying c,aq]
  ·rename_i c;simp at h;subst h;simp[Op.equalIn,run_underlying c,aq]
  ·rename_i e b I L dG c;split at h
   ·rename_i s p;rw[ee]at h;split at h
    ·simp at h
    ·rename_i v;have:=aax K g j h;simp[Op.equalIn,run_underlying c,aq,iG p,v,this]
   ·simp at h
  ·rename_i c;simp at h;subst h;simp[Op.equalIn,run_underlying c,aq]
  ·rename_i c;simp at h;subst h;simp[Op.equalIn,run_underlying c,aq]
  ·rename_i c;simp at h;subst h;simp[Op.equalIn,run_underlying c,aq]
  ·rename_i A vh ty G c;rw[ee]at h;split at h
   ·rename_i e;subst e;split at h
    ·rename_i i ag;simp only[cO]at h;obtain⟨m,h⟩:=h;have:=U f A vh G r Zo g j h;simp[Op.equalIn,run_underlying c,aq,typeInfo,ag,m,this]
    ·simp at h
   ·rename_i e;simp at h;subst h;simp[Op.equalIn,run_underlying c,aq,e]
  all_goals first
   |(rename_i c;simp at h;subst h;simp[Op.equalIn,run_underlying c,aq];done)|skip
  ·rename_i l N O c;simp only[ss]at h;obtain⟨n,h⟩:=h;have k:C.P.fieldsOf t=l:=by simp[Program.fieldsOf,c]
   rw[aq,aq,run_equalIn_struct w f t _ _ (by rw[k];exact c) n,k];exact NB (λt x o r g j h=>U f t x o r Zo g j h) _ _ _ _ g j h
  ·simp at h
end
end Go.aF
