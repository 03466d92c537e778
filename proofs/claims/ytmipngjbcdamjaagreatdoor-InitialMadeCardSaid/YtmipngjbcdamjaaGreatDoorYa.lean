/- Part of the proof of the last text; no conditions -/
import GoSem.Step
import Derived.Below
import Derived.ChangeKeysEq
import Derived.Laws.IdiomCopy
import Derived.Laws.Unary
import Derived.Laws.Wrap64
import Derived.KernelRfl
set_option maxHeartbeats 8000000
set_option linter.all false
namespace Go
def Zo{p:Prop}(h:p:=by omega):p:=h
def Za{p q:Prop}(a:p)(b:q):p/\q:=⟨a,b⟩
def Zd{p:Prop}(h:p:=by decide):p:=h
def Zs{p:Prop}(h:p:=by simp):p:=h
def Zx{p:Prop}(h:p:=by simp;omega):p:=h
def Zk{p:Prop}(h:p:=by kernel_rfl):p:=h
def Zb:type_of%@decide_eq_false_iff_not:=@decide_eq_false_iff_not
def Zc:type_of%@decide_eq_true_eq:=@decide_eq_true_eq
def Ze:type_of%@List.getElem?_eq_getElem:=@List.getElem?_eq_getElem
def Zf:type_of%@List.getElem?_eq_some_iff:=@List.getElem?_eq_some_iff
def Zg:type_of%@List.mem_of_getElem?:=@List.mem_of_getElem?
def Zh:type_of%@Nat.eq_of_beq_eq_true:=@Nat.eq_of_beq_eq_true
def Zi:type_of%@List.mem_cons_of_mem:=@List.mem_cons_of_mem
def Zj:type_of%@if_neg:=@if_neg
def Zl:type_of%@List.mem_cons_self:=@List.mem_cons_self
def Zn:type_of%@List.length_map:=@List.length_map
def Zp:type_of%@Nat.le_refl:=@Nat.le_refl
def Zq:type_of%@Bool.and_eq_true:=@Bool.and_eq_true
def Zr:type_of%@List.mem_append:=@List.mem_append
def Zt:type_of%@List.take_of_length_le:=@List.take_of_length_le
def Zu:type_of%@Option.some.injEq:=@Option.some.injEq
def Zv:type_of%@if_pos:=@if_pos
def Zw:type_of%@List.getElem?_map:=@List.getElem?_map
def Zy:type_of%@List.getElem?_append_right:=@List.getElem?_append_right
def Zz:type_of%@List.mem_cons:=@List.mem_cons
def ZA:type_of%@List.getElem?_append_left:=@List.getElem?_append_left
def ZB:type_of%@List.mem_map:=@List.mem_map
def ZC:type_of%@List.length_cons:=@List.length_cons
def ZD:type_of%@Nat.le_trans:=@Nat.le_trans
def ZE:type_of%@Nat.zero_add:=@Nat.zero_add
def ZF:type_of%@List.mem_singleton:=@List.mem_singleton
def ZG:type_of%@List.take_add_one:=@List.take_add_one
def ZH:type_of%@Nat.add_zero:=@Nat.add_zero
def ZI:type_of%@Array.getElem?_eq_some_iff:=@Array.getElem?_eq_some_iff
def ZJ:type_of%@Option.map_some:=@Option.map_some
def ZK:type_of%@Array.getElem?_toList:=@Array.getElem?_toList
def ZL:type_of%@Option.bind_some:=@Option.bind_some
def ZM:type_of%@if_false:=@if_false
def ZN:type_of%@List.getElem?_cons_succ:=@List.getElem?_cons_succ
def ZO:type_of%@List.take_succ_cons:=@List.take_succ_cons
def ZP:type_of%@if_true:=@if_true
def ZQ:type_of%@List.mem_append_right:=@List.mem_append_right
def ZR:type_of%@Bool.false_eq_true:=@Bool.false_eq_true
def ZS:type_of%@List.map_cons:=@List.map_cons
def ZT:type_of%@List.length_append:=@List.length_append
def ZU:type_of%@List.foldl_cons:=@List.foldl_cons
def ZV:type_of%@Nat.mul_one:=@Nat.mul_one
def ZW:type_of%@List.getElem?_cons_zero:=@List.getElem?_cons_zero
def ZX:type_of%@Option.bind_eq_some_iff:=@Option.bind_eq_some_iff
def ZY:type_of%@List.drop_eq_getElem_cons:=@List.drop_eq_getElem_cons
def ZZ:type_of%@List.mem_iff_getElem?:=@List.mem_iff_getElem?
def Z0:type_of%@List.length_nil:=@List.length_nil
def Z1:type_of%@Nat.add_assoc:=@Nat.add_assoc
def Z2:type_of%@List.mem_append_left:=@List.mem_append_left
def Z3:type_of%@List.getElem?_eq_none:=@List.getElem?_eq_none
def Z4:type_of%@Option.isSome_none:=@Option.isSome_none
def Z5:type_of%@Nat.lt_of_lt_of_le:=@Nat.lt_of_lt_of_le
def Z6:type_of%@List.length_pos_iff:=@List.length_pos_iff
def Z7:type_of%@Nat.add_mul:=@Nat.add_mul
def Z8:type_of%@Bool.eq_iff_iff:=@Bool.eq_iff_iff
def Z9:type_of%@List.flatten_cons:=@List.flatten_cons
def Ya:type_of%@Option.isSome_some:=@Option.isSome_some
def Yb:type_of%@Option.ne_none_iff_exists':=@Option.ne_none_iff_exists'
def Yc:type_of%@List.eq_nil_of_length_eq_zero:=@List.eq_nil_of_length_eq_zero
def Yd:type_of%@Option.some.inj:=@Option.some.inj
def Ye:type_of%@Nat.le_succ:=@Nat.le_succ
def Yf:type_of%@List.drop_zero:=@List.drop_zero
def Yg:type_of%@List.set_cons_zero:=@List.set_cons_zero
def Yh:type_of%@List.set_cons_succ:=@List.set_cons_succ
def Yi:type_of%@Bool.and_self:=@Bool.and_self
def Yj:type_of%@List.drop_succ_cons:=@List.drop_succ_cons
def Yk:type_of%@List.size_toArray:=@List.size_toArray
def Yl:type_of%@Bool.not_false:=@Bool.not_false
def Ym:type_of%@beq_self_eq_true:=@beq_self_eq_true
def Yn:type_of%@Bool.not_true:=@Bool.not_true
def Yo:type_of%@Nat.lt_succ_self:=@Nat.lt_succ_self
def Yp:type_of%@List.filter_cons:=@List.filter_cons
def Yq:type_of%@List.length_take:=@List.length_take
def Yr:type_of%@List.getElem?_set:=@List.getElem?_set
def Ys:type_of%@Array.getElem?_append_left:=@Array.getElem?_append_left
def Yt:type_of%@List.take_zero:=@List.take_zero
def Yu:type_of%@Option.map_eq_some_iff:=@Option.map_eq_some_iff
def Yv:type_of%@Option.bind_assoc:=@Option.bind_assoc
def Yw:type_of%@List.map_congr_left:=@List.map_congr_left
def Yx:type_of%@Bool.or_eq_true:=@Bool.or_eq_true
def Yy:type_of%@List.all_eq_true:=@List.all_eq_true
def Yz:type_of%@List.getElem?_drop:=@List.getElem?_drop
def YA:type_of%@List.getElem?_take_of_lt:=@List.getElem?_take_of_lt
def YB:type_of%@List.length_eq_zero_iff:=@List.length_eq_zero_iff
def YC:type_of%@Array.ext':=@Array.ext'
def YD:type_of%@Option.map_none:=@Option.map_none
def YE:type_of%@List.mem_filter:=@List.mem_filter
def YF:type_of%@List.map_append:=@List.map_append
def YG:type_of%@List.flatten_append:=@List.flatten_append
def YH:type_of%@List.map_map:=@List.map_map
def YI:type_of%@Nat.sub_zero:=@Nat.sub_zero
def YJ:type_of%@decide_false:=@decide_false
def YK:type_of%@List.drop_eq_nil_of_le:=@List.drop_eq_nil_of_le
def YL:type_of%@Bool.and_true:=@Bool.and_true
def YM:type_of%@Nat.mod_eq_of_lt:=@Nat.mod_eq_of_lt
def YN:type_of%@Nat.eq_of_mul_eq_mul_right:=@Nat.eq_of_mul_eq_mul_right
def YO:type_of%@List.getElem?_toArray:=@List.getElem?_toArray
def YP:type_of%@List.mem_or_eq_of_mem_set:=@List.mem_or_eq_of_mem_set
def YQ:type_of%@List.pairwise_iff_getElem:=@List.pairwise_iff_getElem
def YR:type_of%@List.length_set:=@List.length_set
def YS:type_of%@List.mem_of_mem_take:=@List.mem_of_mem_take
def YT:type_of%@Array.size_append:=@Array.size_append
def YU:type_of%@Nat.lt_trichotomy:=@Nat.lt_trichotomy
def YV:type_of%@Nat.sub_self:=@Nat.sub_self
def YW:type_of%@List.set_nil:=@List.set_nil
def YX:type_of%@List.foldl_append:=@List.foldl_append
def YY:type_of%@List.filter_toArray:=@List.filter_toArray
def YZ:type_of%@List.cons_append:=@List.cons_append
def Y0:type_of%@Option.getD_some:=@Option.getD_some
def Y1:type_of%@decide_true:=@decide_true
def Y2:type_of%@Nat.beq_refl:=@Nat.beq_refl
def Y3:type_of%@beq_iff_eq:=@beq_iff_eq
def Y4:type_of%@Nat.zero_mul:=@Nat.zero_mul
def Y5:type_of%@Prod.mk.injEq:=@Prod.mk.injEq
def Y6:type_of%@Array.getElem?_modify:=@Array.getElem?_modify
def Y7:type_of%@Nat.le_div_iff_mul_le:=@Nat.le_div_iff_mul_le
def Y8:type_of%@Array.mem_of_getElem?:=@Array.mem_of_getElem?
def Y9:type_of%@List.ext_getElem?:=@List.ext_getElem?
def za:type_of%@List.flatMap_cons:=@List.flatMap_cons
def zb:type_of%@List.mapM_cons:=@List.mapM_cons
def zc:type_of%@Nat.zero_le:=@Nat.zero_le
def zd:type_of%@Nat.mul_le_mul_right:=@Nat.mul_le_mul_right
def ze:type_of%@List.mem_iff_getElem:=@List.mem_iff_getElem
def zf:type_of%@Nat.le_of_eq:=@Nat.le_of_eq
def zg:type_of%@Nat.lt_or_ge:=@Nat.lt_or_ge
def zh:type_of%@Nat.le_add_right:=@Nat.le_add_right
def zi:type_of%@List.take_length:=@List.take_length
def zj:type_of%@List.cons.injEq:=@List.cons.injEq
def zk:type_of%@Option.toList_some:=@Option.toList_some
def zl:type_of%@List.find?_eq_none:=@List.find?_eq_none
def zm:type_of%@Nat.le_of_lt:=@Nat.le_of_lt
def zn:type_of%@Nat.not_lt:=@Nat.not_lt
def zo:type_of%@true_and:=@true_and
def zp:type_of%@and_true:=@and_true
def zq:type_of%@and_self:=@and_self
def zr:type_of%@Nat.succ_mul:=@Nat.succ_mul
def zs:type_of%@Nat.add_comm:=@Nat.add_comm
def zt:type_of%@Nat.mod_lt:=@Nat.mod_lt
def zu{p q:Prop}(a:q)(h:q->p:=by intro h;omega):p:=h a
def zv(a b:Nat)(h:b<=a:=by omega):decide ((a:Int)<(b:Int))=false:=decide_eq_false (by omega)
def zw(a b:Nat)(h:a<b:=by omega):decide ((a:Int)<(b:Int))=true:=decide_eq_true (by omega)
def zx{α:Type}(l:List α)(i:Nat)(h:i<l.length:=by omega):∃x,l[i]? =some x:=⟨_,List.getElem?_eq_getElem h⟩
def zH{p:Prop}(h:p:=by intro x y z a;obtain⟨H,a,_⟩:=a;cases a):p:=h
def zI{p:Prop}(h:p:=by intro x y z a;obtain⟨E,H,a,_⟩:=a;cases a):p:=h
def zJ{p:Prop}(h:p:=by simp only[Zb];omega):p:=h
def zK{p:Prop}(h:p:=by simp only[Zc];omega):p:=h
end Go
namespace Go.S
noncomputable section
inductive I(α:Type) where
 |nil
 |node (v:Option α) (k r:I α)
 deriving Inhabited
universe N
def aT{α:Type N}(c:Bool)(t l:α):α:=Bool.rec (motive:=λ_=>α) l t c
def I.get{α:Type}(t:I α):Nat->Option α:=
 I.rec (motive:=λ_=>Nat->Option α) (λ_=>none)
  (λv _ _ a b i=>Nat.rec (motive:=λ_=>Option α) v (λH _=>aT (Nat.beq (Nat.mod H 2) 0) (a (Nat.div H 2)) (b (Nat.div H 2))) i) t
def ew{α a:Type}(t:I α)(o:I α->a):a:=
 I.rec (motive:=λ_=>a) (o .nil) (λv k r _ _=>o (.node v k r)) t
def I.ik{α:Type}(f:Nat):I α->Nat->Option α->I α:=
 Nat.rec (motive:=λ_=>I α->Nat->Option α->I α) (λt _ _=>t)
  (λ_ V t i a=>I.rec (motive:=λ_=>I α)
   (Nat.rec (motive:=λ_=>I α) (.node a .nil .nil) (λH _=>aT (Nat.beq (Nat.mod H 2) 0)
    (ew (V .nil (Nat.div H 2) a) λb=> .node none b .nil) (ew (V .nil (Nat.div H 2) a) λc=> .node none .nil c)) i)
   (λv k r _ _=>Nat.rec (motive:=λ_=>I α) (.node a k r) (λH _=>aT (Nat.beq (Nat.mod H 2) 0)
    (ew (V k (Nat.div H 2) a) λb=> .node v b r) (ew (V r (Nat.div H 2) a) λc=> .node v k c)) i) t) f
def hL{a:Type}(n:Nat)(o:Nat->a):a:=Nat.rec (motive:=λ_=>a) (o 0) (λm _=>o (Nat.succ m)) n
def tS{a:Type}(n:Int)(o:Int->a):a:=
 Int.rec (motive:=λ_=>a) (λm=>hL m λm=>o (.ofNat m)) (λm=>hL m λm=>o (.negSucc m)) n
def cf{α:Type}(k:List (Nat×α)):Nat->Option α:=
 List.rec (motive:=λ_=>Nat->Option α) (λ_=>none) (λp _ V H=>Prod.rec (motive:=λ_=>Option α) (λa b=>aT (Nat.beq a H) (some b) (V H)) p) k
def I.set{α:Type}(t:I α)(i:Nat)(a:Option α):I α:=I.ik (i+1) t i a
def I.ofList{α:Type}:List α->Nat->I α->I α
 |[],_,t=>t
 |a::k,i,t=>ew (t.set i (some a)) λb=>ofList k (i+1) b
def I.eM{α:Type}(t:I α):Nat->Nat->Option (List α)
 |_,0=>some []
 |D,n+1=>match t.get D with
  |none=>none
  |some a=>match eM t (D+1) n with
   |none=>none
   |some k=>some (a::k)
def hS{α:Type}(k:List α):Nat->Option α:=
 List.rec (motive:=λ_=>Nat->Option α) (λ_=>none) (λa _ V i=>Nat.rec (motive:=λ_=>Option α) (some a) (λH _=>V H) i) k
inductive y where
 |bool (b:Bool)
 |int (o:IntKind) (n:Int)
 |str (s:List Nat)
 |ptr (b D:Nat)
 |bC
 |slice (b D len cap:Nat)
 |cK (b D len ap:Nat)
 |az
 |map (m:Nat)
 |fF
 |func (fn:Fn) (first a:List y)
 |nilFunc
 |iface (t:Nat) (v:y)
 |nilIface
 |agg (cs:List y)
 |tuple (aE:List y)
 deriving Inhabited
def y.cells:y->List y
 | .agg cs=>cs
 |v=>[v]
def undef:y:= .tuple []
def mA{α c:Type}(f:α->Option c):List α->Option (List c)
 |[]=>some []
 |a::k=>match f a with
  |none=>none
  |some b=>match mA f k with
   |none=>none
   |some r=>some (b::r)
def mF:Nat->Value->Option y
 |0,_=>none
 |n+1,v=>match v with
  | .bool b=>some (.bool b)
  | .int o n=>some (.int o n)
  | .string s=>some (.str (s.data.toList.map (·.toNat)))
  | .pointer none=>some .bC
  | .slice none 0 0=>some .az
  | .map none=>some .fF
  | .func (.func f) ⟨[]⟩ ⟨[]⟩=>some (.func (.func f) [] [])
  | .nilFunc=>some .nilFunc
  | .iface t v=>match mF n v with|some a=>some (.iface t a)|none=>none
  | .nilIface=>some .nilIface
  | .agg cs=>match mA (mF n) cs.toList with|some k=>some (.agg k)|none=>none
  | .tuple cs=>match mA (mF n) cs.toList with|some k=>some (.tuple k)|none=>none
  |_=>none
def nJ(v:Value):Option y:=mF 20 v
inductive sL where
 |fn (fn:Fn) (a:List y)
 |collected (r:Nat)
structure dM where
 target:sL
 args:List y
inductive h5 where
 |own|marked|grow (cj:List Nat)|eC
 deriving Inhabited
inductive ae where
 |cells (c:I y) (size:Nat) (st:h5)
 |map (am:List (y×y×Nat)) (d:Nat)
 |look (am:List (y×y))
 |kr (s:List Nat) (pos:Nat)
 |eW (m:Option Nat) (a:Nat) (seen:List Nat) (g:Nat)
 |jB (m a n:Nat) (bO:List Nat) (st:Nat) (f:Option Nat)
 |loop (state:LoopState) (pending:Option Code) (fn:Nat) (n ac:Nat) (B:I y) (params:List Nat) (assign body:Code) (defers:Nat)
 |deferred (b:Option (List dM))
structure aC where
 P:Program
 G:I ae
 aP:Nat
 dy:Nat->List y->Option y
 cL:Nat
def J(C:aC)(h:I ae)(b:Nat):Option ae:=
 aT (Nat.blt b C.aP) (C.G.get b) (h.get (Nat.sub b C.aP))
def aS(C:aC)(h:I ae)(b:Nat)(D:Option ae):I ae:=h.set (Nat.sub b C.aP) D
def eV(C:aC)(b:Nat):Bool:=Nat.ble C.aP b
structure io where
 v:y
 recovered:Bool
inductive fa where
 |run|returning|panicking (chain:List io)
inductive eT where
 |v (H:Nat)
 |t (n:Nat)
 |c (a:y)
inductive eD where
 |nE (x:eT)
 |pick (c a b:eT)
 |cZ (a:eT)
 |mx (n:Nat) (a:eT)
 |off (d:Nat) (x:eT)
 |mr (n ap:Nat) (x i:eT)
 |ms (ap:Nat) (x i:eT)
 |nH (x:eT)
 |pR (op:BinOp) (x g:eT)
 |ext (i:Nat) (x:eT)
 |st (n:Nat) (a v:eT)
 |call (f:Nat) (args:List eT)
 |dV (a6:List (Nat×Nat)) (D:Op)
 |make (a6:List (Nat×Nat)) (D:Op)
 |cB (a6:List (Nat×Nat)) (D:Op)
structure cE where
 i:Nat
 g:Option (Nat×Bool)
 op:eD
structure jV where
 iX:List cE
 uR:List cE
 cB:Option cE
inductive bV where
 |code (c:Code)
 |inBlock (id:Nat)
 |inLoop (body:Code)
 |inScope (body:Code)
 |o4 (ad:Array Oper) (aa:List (Nat×y)) (rest:List cE) (fin:List (Nat×Nat))
 |drawn (ad:Array Oper) (base:Nat) (aa:List (Nat×y)) (fj:List jV) (fin:List (Nat×Nat))
 |iI (ad:Array Oper) (aa:List (Nat×y)) (e:Nat) (rest:List cE) (fin:List (Nat×Nat))
 |lG (ad:Array Oper) (base:Nat) (aa:List (Nat×y)) (e:Nat) (fj:List jV) (fin:List (Nat×Nat))
 |inRangeFunc (k:Nat)
 |endRangeFunc (k:Nat)
 |beginRound
structure dq where
 fn:Nat
 n:Nat
 ac:Nat
 B:I y
 todo:List bV
 defers:List dM
 mode:fa
 deferred:Bool
 roundOf:Option Nat
section ad
variable(C:aC)
def ea(t:Nat):Option Nat:=match C.P.info? t with|some i=>some i.size|none=>none
def h1(t:Nat):Option y:=match C.P.info? t with|some i=>(match i.zero with|some v=>nJ v|none=>none)|none=>none
def nw(t:Nat):Option Bool:=match C.P.underlying t with
 |some (.struct _)=>some true|some (.array _ _)=>some true|some _=>some false|none=>none
def e5:List y->Nat->List y->List y
 |cs,_,[]=>cs
 |cs,D,v::k=>e5 (cs.set D v) (D+1) k
def mg(a:Nat->Option (Nat×Nat)):List y->List (Nat×y)->Option (List y)
 |cells,[]=>some cells
 |cells,(i,v)::rest=>match a i with
  |none=>none
  |some (off,size)=>
   aT (Nat.beq v.cells.length size&&Nat.ble (off+size) cells.length) (mg a (e5 cells off v.cells) rest)<|none
def eA:Nat->List y->List y
 |0,_=>[]
 |n+1,z=>z++eA n z
def kX(af:Operand->Option y):List (Nat×Operand)->Option (List (Nat×y))
 |[]=>some []
 |(i,x)::k=>match af x,kX af k with|some v,some r=>some ((i,v)::r)|_,_=>none
def hm(af:Operand->Option y):List Operand->Option (List y)
 |[]=>some []
 |x::k=>match af x,hm af k with|some v,some r=>some (v::r)|_,_=>none
def vd(a:List Field)(i:Nat):Option (Nat×Nat):=
 match hS a i with
 |some f=>(match ea C f.type with|some s=>some (f.offset,s)|none=>none)
 |none=>none
def r7:List Field->Bool
 |[]=>true
 |f::k=>(match ea C f.type with|some _=>true|none=>false)&&r7 k
def qL(t:Nat)(parts:List (Nat×y)):Option y:=
 match h1 C t with
 |none=>none
 |some z=>match C.P.underlying t with
  |some (.struct a)=>aT (r7 C a.toList) (match mg (vd C a.toList) z.cells parts with|some cs=>some (.agg cs)|none=>none) none
  |some (.array _ bZ)=>(match ea C bZ with
   |some s=>(match mg (λi=>some (i*s,s)) z.cells parts with|some cs=>some (.agg cs)|none=>none)
   |none=>none)
  |_=>none
def m7(t:Nat)(cs:List y)(off:Nat):Option y:=
 match nw C t,ea C t with
 |some true,some s=>some (.agg ((cs.drop off).take s))
 |some false,_=>hS cs off
 |_,_=>none
def f5:List Nat->List Nat->Bool
 |[],[]=>true
 |a::x,b::c=>Nat.beq a b&&f5 x c
 |_,_=>false
def mE:List Nat->List Nat->Bool
 |_,[]=>false
 |[],_::_=>true
 |a::x,b::c=>Nat.blt a b||(Nat.beq a b&&mE x c)
def sd(h:I ae)(b D:Nat):Bool:=match J C h b with
 |some (.cells _ n .own)=>eV C b&&Nat.blt D n
 |_=>false
def oS(h:I ae)(b D:Nat):Bool:=match J C h b with
 |some (.cells _ _ .eC)=>false
 |some (.cells _ n _)=>Nat.blt D n
 |_=>false
def ptrEq(h:I ae)(b D a o':Nat):Option Bool:=
 aT (Nat.beq b a) (some (Nat.beq D o')) (aT (sd C h b D&&oS C h a o'||sd C h a o'&&oS C h b D) (some false) none)
def pf(eq:Nat->y->y->Option Bool):List Field->List y->List y->Option Bool
 |[],_,_=>some true
 |f::eL,c,d=>
  aT (f.name== "_") none<|
  match m7 C f.type c f.offset,m7 C f.type d f.offset with
  |some a,some b=>(match eq f.type a b with
   |some true=>pf eq eL c d
   |some false=>some false
   |none=>none)
  |_,_=>none
def f2(o ct:IntKind):Bool:=match o,ct with
 | .i8, .i8=>true| .i16, .i16=>true| .i32, .i32=>true| .i64, .i64=>true
 | .u8, .u8=>true| .u16, .u16=>true| .u32, .u32=>true| .u64, .u64=>true
 |_,_=>false
def q1(a b:Bool):Bool:=match a,b with|true,true=>true|false,false=>true|_,_=>false
def js(x c:Int):Bool:=match x,c with
 | .ofNat a, .ofNat b=>Nat.beq a b
 | .negSucc a, .negSucc b=>Nat.beq a b
 |_,_=>false
def kh(x c:Int):Bool:=match x,c with
 | .ofNat a, .ofNat b=>Nat.blt a b
 | .negSucc a, .negSucc b=>Nat.blt b a
 | .negSucc _, .ofNat _=>true
 | .ofNat _, .negSucc _=>false
def fW(h:I ae):Nat->Nat->y->y->Option Bool
 |0,_,_,_=>none
 |d+1,t,x,r=>
  match C.P.underlying t,x,r with
  |some .bool, .bool a, .bool b=>some (q1 a b)
  |some (.int _), .int o a, .int ct b=>aT (f2 o ct) (some (js a b)) none
  |some .string, .str a, .str b=>some (f5 a b)
  |some (.pointer _), .bC, .bC=>some true
  |some (.pointer _), .bC, .ptr _ _=>some false
  |some (.pointer _), .ptr _ _, .bC=>some false
  |some (.pointer l), .ptr b D, .ptr f o'=>
   (
    match ea C l with
    |some s=>aT (Nat.beq s 0) none (ptrEq C h b D f o')
    |none=>none)
  |some (.interface _), .nilIface, .nilIface=>some true
  |some (.interface _), .nilIface, .iface _ _=>some false
  |some (.interface _), .iface _ _, .nilIface=>some false
  |some (.interface _), .iface c m, .iface ty n=>aT (Nat.beq c ty) (match C.P.info? c with
   |some i=>aT i.comparable (fW h d c m n) none
   |none=>none) (some false)
  |some (.slice _), .az, .az=>some true
  |some (.slice _), .az, .slice .. =>some false
  |some (.slice _), .az, .cK .. =>some false
  |some (.slice _), .slice .., .az=>some false
  |some (.slice _), .cK .., .az=>some false
  |some (.map _ _), .fF, .fF=>some true
  |some (.map _ _), .fF, .map _=>some false
  |some (.map _ _), .map _, .fF=>some false
  |some (.func _ _ _), .nilFunc, .nilFunc=>some true
  |some (.func _ _ _), .nilFunc, .func .. =>some false
  |some (.func _ _ _), .func .., .nilFunc=>some false
  |some (.struct g), .agg p, .agg v=>aT (C.P.stoodInHeld t) none (pf C (fW h d) g.toList p v)
  |_,_,_=>none
def h0(o:IntKind)(n:Int):Int:=
 match o with
 | .i64=>(λm:Int=>aT (decide (m<9223372036854775808)) m (m-18446744073709551616)) (n%18446744073709551616)
 | .u64=>n%18446744073709551616
 | .u8=>n%256
 |o=>o.wrap n
def g5(o:IntKind)(n:Int):Option y:=tS n λn=>some (.int o n)
def fq(o:IntKind)(n:Int):Option y:=tS (h0 o n) λn=>some (.int o n)
def gY(b:Bool):Option y:=aT b (some (.bool true)) (some (.bool false))
def fJ(op:BinOp):IntKind->Int->Int->Option y:=
 match op with
 | .add=>λo x a=>fq o (x+a)
 | .sub=>λo x a=>fq o (x-a)
 | .mul=>λo x a=>fq o (x*a)
 | .quo=>λo x a=>aT (js a 0) none (fq o (x.tdiv a))
 | .rem=>λo x a=>aT (js a 0) none (g5 o (x.tmod a))
 | .and=>λo x a=>fq o ((BitVec.ofInt o.bits x&&& BitVec.ofInt o.bits a).toNat)
 | .or=>λo x a=>fq o ((BitVec.ofInt o.bits x|||BitVec.ofInt o.bits a).toNat)
 | .xor=>λo x a=>fq o ((BitVec.ofInt o.bits x^^^BitVec.ofInt o.bits a).toNat)
 | .andNot=>λo x a=>fq o ((BitVec.ofInt o.bits x&&& ~~~ BitVec.ofInt o.bits a).toNat)
 | .eql=>λ_ x a=>gY (js x a)
 | .neq=>λ_ x a=>gY (!js x a)
 | .lss=>λ_ x a=>gY (kh x a)
 | .leq=>λ_ x a=>gY (!kh a x)
 | .gtr=>λ_ x a=>gY (kh a x)
 | .geq=>λ_ x a=>gY (!kh x a)
 |_=>λ_ _ _=>none
def pi(op:BinOp)(o:IntKind)(x a:Int):Option y:=
 aT (kh a 0) none
 (match op with
 | .shl=>fq o (x*2^(min a.toNat o.bits))
 | .shr=>g5 o (x.fdiv (2^(min a.toNat o.bits)))
 |_=>none)
def fM(op:BinOp):Bool:=match op with| .shl| .shr=>true|_=>false
def m8(op:BinOp)(x a:List Nat):Option y:=
 match op with
 | .add=>aT (Nat.ble (x.length+a.length) 1000000000) (some (.str (x++a)))<|none
 | .eql=>gY (f5 x a)
 | .neq=>gY (!f5 x a)
 | .lss=>gY (mE x a)
 | .leq=>gY (mE x a||f5 x a)
 | .gtr=>gY (!(mE x a||f5 x a))
 | .geq=>gY (!mE x a)
 |_=>none
def ah(op:BinOp)(x c:y):Option y:=
 match x,c with
 | .int o a, .int ct b=>aT (fM op) (pi op o a b) (aT (f2 o ct) (fJ op o a b) none)
 |_,_=>none
def oB(t:Nat)(a:Bool)(x c:y):Bool:=match x,c with
 | .nilIface, .nilIface=>a||(match C.P.underlying t with|some (.interface b)=>b.isEmpty|_=>false)
 | .agg _, .agg _=> !C.P.eqGuardType C.P.depth t
 |_,_=>true
def ce(h:I ae)(op:BinOp)(t:Nat)(d:Bool)(x c:y):Option y:=
 match x,c with
 | .int o a, .int ct b=>ah op (.int o a) (.int ct b)
 | .str a, .str b=>m8 op a b
 |x,c=>aT (oB C t d x c) (match op with
  | .eql=>(match fW C h 50 t x c with|some b=>gY b|none=>none)
  | .neq=>(match fW C h 50 t x c with|some b=>gY (!b)|none=>none)
  |_=>none) none
def c0(op:UnOp)(x:y):Option y:=
 match op,x with
 | .neg, .int o n=>fJ .sub o 0 n
 | .xor, .int o n=>fJ .xor o (if o.signed then -1 else o.max) n
 | .not, .bool b=>gY (!b)
 |_,_=>none
def s1(src dst:Nat)(x:y):Option y:=
 match C.P.underlying src,C.P.underlying dst,x with
 |some _,some (.int o), .int _ n=>fq o n
 |some _,some .string, .str s=>some (.str s)
 |_,_,_=>none
def f3(v:y):Option Nat:=match v with| .int _ n=>(match n with| .ofNat n=>some n|_=>none)|_=>none
def hq(D:Option y)(m d:Nat):Option Nat:=match D with
 |some v=>(match f3 v with|some n=>aT (Nat.ble n m) (some n)<|none|none=>none)
 |none=>some d
def gW(len cap:Nat)(aF ak a:Option y):Option (Nat×Nat×Nat):=
 match hq a cap cap with
 |none=>none
 |some m=>match (match ak,a with
   |none,some _=>none
   |ak,_=>hq ak m len)with
  |none=>none
  |some e=>match hq aF e 0 with
   |none=>none
   |some k=>some (k,e,m)
def mH(af:Operand->Option y):Option Operand->Option (Option y)
 |none=>some none
 |some x=>match af x with|some v=>some (some v)|none=>none
def jK(h:I ae)(b:Nat):Option Nat:=match J C h b with|some (.cells _ n (.grow _))=>some n|some (.cells _ n .eC)=>some n|_=>none
def qV(h:I ae)(t:Nat)(x:y)(aF ak a:Option y):Option y:=
 match C.P.underlying t,x with
 |some .string, .str s=>(match a with
  |some _=>none
  |none=>(match gW s.length s.length aF ak none with
   |some (k,e,_)=>some (.str ((s.drop k).take (e-k)))
   |none=>none))
 |some (.slice bZ), .slice b D len cap=>(match gW len cap aF ak a,ea C bZ with
  |some (k,e,m),some ap=>some (.slice b (aT (Nat.beq m k) (D)<|D+k*ap) (e-k) (m-k))
  |_,_=>none)
 |some (.slice bZ), .az=>(match gW 0 0 aF ak a,ea C bZ with
  |some _,some _=>some .az
  |_,_=>none)
 |some (.slice bZ), .cK b D len ap=>(match ea C bZ,jK C h b with
  |some c,some n=>aT (Nat.beq ap c&&Nat.blt 0 ap) ((match gW len ((n-D)/ap) aF ak a with
    |some (k,e,m)=>(match a with
     |some _=>some (.slice b (aT (Nat.beq m k) (D)<|D+k*ap) (e-k) (m-k))
     |none=>aT (Nat.blt k ((n-D)/ap)||Nat.beq k 0) (some (.cK b (D+k*ap) (e-k) ap))<|none)
    |none=>none))<|none
  |_,_=>none)
 |some (.array n bZ), .ptr b D=>(match gW n n aF ak a,ea C bZ with
  |some (k,e,m),some ap=>some (.slice b (aT (Nat.beq m k) (D)<|D+k*ap) (e-k) (m-k))
  |_,_=>none)
 |_,_=>none
def qR(t:Nat)(x i:y):Option y:=
 match f3 i with
 |none=>none
 |some i=>match C.P.underlying t,x with
  |some (.array n bZ), .agg cs=>(match ea C bZ with|some ap=>aT (Nat.blt i n) (m7 C bZ cs (i*ap))<|none|none=>none)
  |some .string, .str s=>(match hS s i with|some c=>some (.int .u8 (Int.ofNat c))|none=>none)
  |_,_=>none
def cellsOf(h:I ae)(b:Nat):Option (I y):=match J C h b with
 |some (.cells c _ _)=>some c
 |_=>none
def W(h:I ae)(a:y):Option y:=
 match a with
 | .ptr b D=>(match cellsOf C h b with
   |some c=>c.get D
   |none=>none)
 |_=>none
def br(h:I ae)(n:Nat)(a:y):Option y:=
 match a with
 | .ptr b D=>(match cellsOf C h b with
   |some c=>(match c.eM D n with|some k=>some (.agg k)|none=>none)
   |none=>none)
 |_=>none
def iO(h:I ae)(t:Nat)(a:y):Option y:=
 match nw C t,ea C t with
 |some true,some s=>br C h s a
 |some false,_=>W C h a
 |_,_=>none
def fX:Nat->Nat->y->Bool
 |0,_,_=>false
 |n+1,t,v=>match C.P.underlying t,v with
  |some (.interface _), .iface d x=>(match C.P.info? d with|some i=>i.comparable&&fX n d x|none=>false)
  |some (.interface _), .nilIface=>true
  |some (.interface _),_=>false
  |some (.struct a), .agg cs=>a.toList.all λf=>f.name== "_"||(match m7 C f.type cs f.offset with|some p=>fX n f.type p|none=>false)
  |some (.struct _),_=>false
  |some (.array _ _),_=>false
  |some _,_=>true
  |none,_=>false
def gL:Nat->y->y->Bool
 |0,_,_=>false
 |n+1,x,c=>match x,c with
  | .bool a, .bool b=>q1 a b
  | .int o a, .int ct b=>f2 o ct&&js a b
  | .str a, .str b=>f5 a b
  | .ptr b D, .ptr d o'=>Nat.beq b d&&Nat.beq D o'
  | .bC, .bC=>true
  | .nilIface, .nilIface=>true
  | .iface t v, .iface f g=>Nat.beq t f&&gL n v g
  | .agg a, .agg b=>mw n a b
  |_,_=>false
 where
 mw (n:Nat):List y->List y->Bool
 |[],[]=>true
 |x::a,c::b=>gL n x c&&mw n a b
 |_,_=>false
def findKey(h:I ae)(t:Nat)(o:y):List (y×y×Nat)->Nat->Option (Option (Nat×y))
 |[],_=>some none
 |(ct,v,_)::am,i=>match fW C h 20 t o ct with
  |some true=>some (some (i,v))
  |some false=>findKey h t o am (i+1)
  |none=>none
def hQ(h:I ae)(t:Nat)(o:y):List (y×y)->Option (Option y)
 |[]=>some none
 |(ct,v)::am=>match hQ h t o am,fW C h 20 t o ct with
  |some r,some false=>some r
  |some none,some true=>some (some v)
  |_,_=>none
def rW(r:Option (Option y)):Option (Option (Nat×y)):=match r with
 |some (some v)=>some (some (0,v))
 |some none=>some none
 |none=>none
def qU(h:I ae)(t:Nat)(m o:y)(ok:Bool):Option y:=
 match C.P.underlying t with
 |some (.map a b)=>
  (match (match m with
   | .fF=>aT (fX C 20 a o) (some none) none
   | .map r=>(match J C h r with|some (.map am _)=>aT (fX C 20 a o) (findKey C h a o am 0) none|some (.look am)=>aT (fX C 20 a o) (rW (hQ C h a o am)) none|_=>none)
   |_=>none)with
  |none=>none
  |some none=>(match h1 C b with|some z=>some (aT (ok) (.tuple [z, .bool false])<|z)|none=>none)
  |some (some (_,v))=>some (aT (ok) (.tuple [v, .bool true])<|v))
 |_=>none
def qT(h:I ae)(t:Nat)(x:y):Option y:=
 match C.P.underlying t,x with
 |some .string, .str s=>g5 .i64 (Int.ofNat s.length)
 |some (.array n _),_=>some (.int .i64 (Int.ofNat n))
 |some (.pointer a7),_=>(match C.P.underlying a7 with|some (.array n _)=>some (.int .i64 (Int.ofNat n))|_=>none)
 |some (.slice _), .slice _ _ n _=>g5 .i64 (Int.ofNat n)
 |some (.slice _), .cK _ _ n _=>g5 .i64 (Int.ofNat n)
 |some (.slice _), .az=>some (.int .i64 0)
 |some (.map _ _), .fF=>some (.int .i64 0)
 |some (.map _ _), .map r=>(match J C h r with|some (.map am _)=>g5 .i64 (Int.ofNat am.length)|_=>none)
 |_,_=>none
def qM(t:Nat)(x:y):Option y:=
 match C.P.underlying t,x with
 |some (.slice _), .slice _ _ _ n=>g5 .i64 (Int.ofNat n)
 |some (.slice _), .az=>some (.int .i64 0)
 |_,_=>none
def hG(b:Bool):y->List y->Option y
 |v,[]=>some v
 | .int o x, .int _ a::k=>hG b (.int o (aT (b) ((aT (kh x a) (a)<|x))<|(aT (kh a x) (a)<|x))) k
 |_,_=>none
def nc:List y->Option (List Nat)
 |[]=>some []
 | .int .u8 (.ofNat n)::k=>(match nc k with|some r=>some (n%256::r)|none=>none)
 |_=>none
def fY(h:I ae)(b D n:Nat):Option (List y):=
 match cellsOf C h b with
 |some c=>c.eM D n
 |none=>aT (Nat.beq n 0) (some []) none
def qW(h:I ae)(x:y):Option y:=
 match x with
 | .az=>some (.str [])
 | .slice b D len _=>(match fY C h b D len with|some k=>(match nc k with|some s=>some (.str s)|none=>none)|none=>none)
 | .cK b D len _=>(match fY C h b D len with|some k=>(match nc k with|some s=>some (.str s)|none=>none)|none=>none)
 |_=>none
def uc(t:Nat)(parts:Array (Nat×Operand))(_:I ae)(af:Operand->Option y):Option y:=
 match kX af parts.toList with|some bH=>qL C t bH|none=>none
def hO(D:Operand):Bool:=match D with| .const _=>true|_=>false
def rO(op:BinOp)(t:Nat)(x c:Operand)(h:I ae)(af:Operand->Option y):Option y:=
 match af x,af c with|some a,some b=>ce C h op t (hO x||hO c) a b|_,_=>none
def uj(op:UnOp)(x:Operand)(_:I ae)(af:Operand->Option y):Option y:=
 match af x with|some a=>c0 op a|none=>none
def p0(s d:Nat)(x:Operand)(h:I ae)(af:Operand->Option y):Option y:=
 match af x with
 |some a=>(match s1 C s d a with
  |some v=>some v
  |none=>(match C.P.underlying s,C.P.underlying d with
   |some (.slice l),some .string=>(match C.P.underlying l with|some (.int .u8)=>qW C h a|_=>none)
   |_,_=>none))
 |none=>none
def p3(t:Nat)(x:Operand)(_:I ae)(af:Operand->Option y):Option y:=
 match C.P.underlying t,af x with
 |some (.interface _),_=>none
 |some _,some v=>some (.iface t v)
 |_,_=>none
def uf(fn:Fn)(first c:Array Operand)(_:I ae)(af:Operand->Option y):Option y:=
 match hm af first.toList,hm af c.toList with
 |some a,some b=>(match fn with| .func f=>some (.func (.func f) a b)|_=>none)
 |_,_=>none
def ui(t:Nat)(x:Operand)(aF ak a:Option Operand)(h:I ae)(af:Operand->Option y):Option y:=
 match af x,mH af aF,mH af ak,mH af a with
 |some v,some k,some e,some m=>qV C h t v k e m
 |_,_,_,_=>none
def p2(t:Nat)(x:Operand)(f:Nat)(_:I ae)(af:Operand->Option y):Option y:=
 match C.P.underlying t,af x with
 |some (.struct b),some (.agg cs)=>(match hS b.toList f with
  |some a=>m7 C a.type cs a.offset
  |none=>none)
 |_,_=>none
def ug(t:Nat)(x i:Operand)(_:I ae)(af:Operand->Option y):Option y:=
 match af x,af i with|some a,some b=>qR C t a b|_,_=>none
def uh(t:Nat)(m o:Operand)(ok:Bool)(h:I ae)(af:Operand->Option y):Option y:=
 match af m,af o with|some a,some b=>qU C h t a b ok|_,_=>none
def pZ(x:Operand)(a:Nat)(ok:Bool)(_:I ae)(af:Operand->Option y):Option y:=
 match C.P.underlying a,af x with
 |some (.interface _),_=>none
 |some _,some .nilIface=>aT (ok) ((match h1 C a with|some z=>some (.tuple [z, .bool false])|none=>none))<|none
 |some _,some (.iface t v)=>aT (Nat.beq t a) (some (aT (ok) (.tuple [v, .bool true])<|v))<|aT (ok) ((match h1 C a with|some z=>some (.tuple [z, .bool false])|none=>none))<|none
 |_,_=>none
def ud(b:Builtin)(args:Array Operand)(bw:Array TypeId)(h:I ae)(af:Operand->Option y):Option y:=
 match b,hm af args.toList with
 | .len,some [x]=>(match bw.toList with|t::_=>qT C h t x|_=>none)
 | .cap,some [x]=>(match bw.toList with|t::_=>qM C t x|_=>none)
 | .max,some (x::k)=>hG true x k
 | .min,some (x::k)=>hG false x k
 |_,_=>none
def ue(c:Call)(h:I ae)(af:Operand->Option y):Option y:=
 match c with
 |⟨.builtin b,args,bw⟩=>ud C b args bw h af
 |_=>none
def p4:List Nat->Option Nat
 |[]=>none
 |a::k=>match k with|[]=>some a|_=>p4 k
def mh(b:Nat):List (y×y×Nat)->Option (y×y×Nat)
 |[]=>none
 |l::am=>aT (Nat.beq l.2.2 b) (some l) (mh b am)
def p1(f:Operand)(h:I ae)(af:Operand->Option y):Option y:=
 match af f with
 |some (.ptr r 0)=>(match J C h r with
  |some (.eW (some m) _ seen c)=>(match p4 seen,J C h m with
   |some b,some (.map am a)=>aT (Nat.beq a c) (match mh b am with
    |some (o,v,_)=>some (.tuple [o,v])
    |none=>none) none
   |_,_=>none)
  |some (.jB m _ _ _ c d)=>(match d,J C h m with
   |some b,some (.map am a)=>aT (Nat.beq a c) (match mh b am with
    |some (o,v,_)=>some (.tuple [o,v])
    |none=>none) none
   |_,_=>none)
  |_=>none)
 |_=>none
def gB(D:Op):aC->I ae->(Operand->Option y)->Option y:=
 match D with
 | .build t parts=>λC=>uc C t parts
 | .binOp op t x p _=>λC=>rO C op t x p
 | .unOp op _ x=>λ_=>uj op x
 | .convert s d x=>λC=>p0 C s d x
 | .makeInterface t x=>λC=>p3 C t x
 | .makeFunc fn first b=>λ_=>uf fn first b
 | .slice t x aF ak n=>λC=>ui C t x aF ak n
 | .field t x f=>λC=>p2 C t x f
 | .index t x i=>λC=>ug C t x i
 | .lookup t m o ok=>λC=>uh C t m o ok
 | .typeAssert x _ a ok=>λC=>pZ C x a ok
 | .entry g=>λC=>p1 C g
 | .call c=>λC=>ue C c
 |_=>λ_ _ _=>none
def mO(c:eD):Bool:=match c with
 | .cZ _| .mx _ _=>true
 | .dV _ D=>(match D with
   | .lookup .. | .convert .. | .slice .. | .call _| .binOp .. | .entry _=>true
   |_=>false)
 |_=>false
def nB(t:Nat)(_:Operand->Option y)(b:Nat):Option (y×ae):=
 match h1 C t with|some z=>some (.ptr b 0, .cells (I.ofList z.cells 0 .nil) z.cells.length .own)|none=>none
def p7(x:Operand)(af:Operand->Option y)(b:Nat):Option (y×ae):=
 match af x with|some v=>some (.ptr b 0, .cells (I.ofList v.cells 0 .nil) v.cells.length .own)|none=>none
def p8(t len:Nat)(parts:Array (Nat×Operand))(af:Operand->Option y)(b:Nat):Option (y×ae):=
 match C.P.underlying t,kX af parts.toList with
 |some (.slice bZ),some bH=>(match ea C bZ,h1 C bZ with
  |some s,some z=>aT (Nat.ble (len*s) 16777216&&Nat.beq z.cells.length s) ((match mg (λi=>some (i*s,s)) (eA len z.cells) bH with
    |some cs=>some (.slice b 0 len len, .cells (I.ofList cs 0 .nil) cs.length .own)
    |none=>none))<|none
  |_,_=>none)
 |_,_=>none
def hH(D:Op):aC->(Operand->Option y)->Nat->Option (y×ae):=
 match D with
 | .alloc t=>λC=>nB C t
 | .box _ x=>λ_=>p7 x
 | .buildSlice t len parts=>λC=>p8 C t len parts
 | .makeMap _ none=>λ_ _ b=>some (.map b, .map [] 0)
 |_=>λ_ _ _=>none
def fN:List Nat->I ae->I ae
 |[],e=>e
 |b::k,e=>fN k (aS C e b none)
def cO:I y->Nat->List y->I y
 |c,_,[]=>c
 |c,D,v::k=>ew (c.set D (some v)) λc=>cO c (D+1) k
def d9(v:y):Bool:=match v with| .agg _=>false| .tuple _=>false|_=>true
def cR:List y->Bool
 |[]=>true
 |v::k=>d9 v&&cR k
def gX(h:I ae)(b D:Nat)(aE:List y):Option (I ae):=
 match J C h b with
 |some (.cells c n st)=>aT (Nat.ble (D+aE.length) n&&eV C b&&cR aE) ((match st with
   | .own=>ew (cO c D aE) λc=>ew (aS C h b (some (.cells c n .own))) λh=>some h
   | .marked=>ew (cO c D aE) λc=>ew (aS C h b (some (.cells c n .marked))) λh=>some h
   | .grow cj=>ew (cO c D aE) λc=>ew (aS C (fN C cj h) b (some (.cells c n (.grow [])))) λh=>some h
   |_=>none))<|none
 |_=>none
def gy(h:I ae)(ap:Nat)(x:y):Option (Nat×List y):=
 match x with
 | .az=>some (0,[])
 | .slice b D len _=>(match fY C h b D (len*ap)with|some k=>some (len,k)|none=>none)
 | .cK b D len _=>(match fY C h b D (len*ap)with|some k=>some (len,k)|none=>none)
 | .str s=>aT (Nat.beq ap 1) (some (s.length,s.map λn=>y.int .u8 (Int.ofNat n))) none
 |_=>none
inductive b1 where
 |val (v:y)
 |cy (v:y) (h:I ae) (j:Nat)
 |enter (f:Nat) (args:List y)
 |known (f:Nat) (args:List y) (v:y)
 |round (k:Nat) (args:List y)
 |defer (d:dM)
 |recover
 |panic (v:y)
 |fork (k:List (y×I ae))
def gt(C:aC)(h:I ae)(j:Nat)(D:ae)(o:Nat->y):Option b1:=
 hL j λj=>ew (aS C h j (some D)) λh=>some (.cy (o j) h (j+1))
def kb(h:I ae)(j n ap:Nat)(k:List y):Option b1:=
 aT (Nat.ble n 1048576) (gt C h j (.cells (I.ofList k 0 .nil) k.length (.grow [])) λb=> .cK b 0 n ap)<|none
def pm(h:I ae)(j:Nat)(b D len ap n:Nat)(k:List y):Option b1:=
 match J C h b with
 |some (
   .cells c size (.grow cj))=>aT (eV C b)
  (aT (
   Nat.ble (D+(len+n)*ap) size)
   (match gX C h b (D+len*ap) k with|some E=>some (.cy (.cK b D (len+n) ap) E j)|none=>none)
   (aT (Nat.ble (len+n) 1048576&&cR k) (aT (Nat.beq (D+len*ap) size&&Nat.beq D 0)
    (ew (cO c size k) λf=>gt C (aS C h b (some (.cells c size .eC))) j (.cells f (size+k.length) (.grow (b::cj))) λa=> .cK a 0 (len+n) ap)
    (match c.eM D (len*ap)with
    |some d=>gt C (aS C (fN C cj h) b none) j (.cells (I.ofList (d++k) 0 .nil) (d++k).length (.grow [])) λa=> .cK a 0 (len+n) ap
    |none=>none)) none)) none
 |_=>none
def kI(h:I ae)(j:Nat)(ap n:Nat)(k:List y)(s:y):Option b1:=
 match s with
 | .az=>kb C h j n ap k
 | .slice b D len cap=>aT (Nat.ble (len+n) cap) ((match gX C h b (D+len*ap) k with|some E=>some (.cy (.slice b D (len+n) cap) E j)|none=>none))<|(match fY C h b D (len*ap)with
    |some a=>kb C h j (len+n) ap (a++k)
    |none=>none)
 | .cK b D len c=>aT (Nat.beq c ap) (pm C h j b D len ap n k)<|none
 |_=>none
def ol(h:I ae)(ap:Nat)(s:y):Option b1:=
 match s with
 | .az=>some (.val .az)
 | .slice b D len cap=>aT (Nat.ble len cap) (some (.val (.slice b D len cap))) none
 | .cK b D len a=>aT (Nat.beq a ap) (match jK C h b with
   |some n=>aT (Nat.ble (D+len*ap) n) (some (.val (.cK b D len a))) none
   |none=>none) none
 |_=>none
def qQ(h:I ae)(j:Nat)(st:Nat)(s:y)(n:Nat):Option b1:=
 match C.P.underlying st with
 |some (.slice bZ)=>(match C.P.info? bZ,h1 C bZ with
  |some i,some z=>aT (Nat.blt 0 i.size&&Nat.ble i.bytes 65536&&Nat.beq z.cells.length i.size&&Nat.ble n 1048576) (aT (Nat.beq n 0) (ol C h i.size s)<|kI C h j i.size n (eA n z.cells) s)<|none
  |_,_=>none)
 |_=>none
def Bh(i:TypeInfo):Bool:=match i.zero with|some z=>Nat.beq z.cells.size i.size|none=>false
def og(h:I ae)(j:Nat)(st:Nat)(s x:y):Option b1:=
 match C.P.underlying st with
 |some (.slice bZ)=>(match C.P.info? bZ with
  |some i=>(match gy C h i.size x with
   |some (n,k)=>aT (Nat.blt 0 i.size&&Nat.ble i.bytes 65536&&Bh i) ((aT (Nat.beq n 0) (ol C h i.size s)<|kI C h j i.size n k s))<|none
   |none=>none)
  |none=>none)
 |_=>none
def q7(h:I ae)(j:Nat)(b D m:Nat)(k:List y):Option b1:=
 aT (Nat.beq m 0) (some (.val (.int .i64 0)))<|
 (match gX C h b D k with|some E=>some (.cy (.int .i64 (Int.ofNat m)) E j)|none=>none)
def qO(h:I ae)(j:Nat)(st:Nat)(d x:y):Option b1:=
 match C.P.underlying st with
 |some (.slice bZ)=>(match ea C bZ with
  |some ap=>(match gy C h ap x with
   |some (n,k)=>(match d with
    | .az=>some (.val (.int .i64 0))
    | .slice b D len _=>q7 C h j b D (min n len) (k.take (min n len*ap))
    | .cK b D len _=>q7 C h j b D (min n len) (k.take (min n len*ap))
    |_=>none)
   |none=>none)
  |none=>none)
 |_=>none
def qN(h:I ae)(j:Nat)(t:Nat)(x:y):Option b1:=
 match C.P.underlying t with
 |some (.slice bZ)=>(match ea C bZ,h1 C bZ with
  |some ap,some z=>aT (Nat.beq z.cells.length ap) (match x with
   | .az=>some (.val (.tuple []))
   | .slice b D len _=>aT (Nat.beq len 0) (some (.val (.tuple []))) (match gX C h b D (eA len z.cells)with|some h=>some (.cy (.tuple []) h j)|none=>none)
   | .cK b D len _=>aT (Nat.beq len 0) (some (.val (.tuple []))) (match gX C h b D (eA len z.cells)with|some h=>some (.cy (.tuple []) h j)|none=>none)
   |_=>none) none
  |_,_=>none)
 |_=>none
def setObj(h:I ae)(j:Nat)(r:Nat)(D:ae)(v:y):Option b1:=
 aT (eV C r) (ew (aS C h r (some D)) λh=>some (.cy v h j))<|none
def pg(h:I ae)(j:Nat)(t:Nat)(m o v:y):Option b1:=
 match C.P.underlying t,m with
 |some (.map b _), .map r=>(match J C h r with
  |some (.map am a)=>aT (fX C 20 b o) (match findKey C h b o am 0 with
   |some (some (i,_))=>(match hS am i with
    |some (ct,_,born)=>aT (gL 20 ct o) (setObj C h j r (.map (am.set i (o,v,born)) a) undef) none
    |none=>none)
   |some none=>setObj C h j r (.map (am++[(o,v,a)]) (a+1)) undef
   |none=>none) none
  |_=>none)
 |_,_=>none
def qP(h:I ae)(j:Nat)(t:Nat)(m o:y):Option b1:=
 match C.P.underlying t,m with
 |some (.map b _), .map r=>(match J C h r with
  |some (.map am a)=>aT (fX C 20 b o) (match findKey C h b o am 0 with
   |some (some (i,_))=>setObj C h j r (.map (am.eraseIdx i) a) (.tuple [])
   |some none=>setObj C h j r (.map am a) (.tuple [])
   |none=>none) none
  |_=>none)
 |_,_=>none
def sh(x c:y):Bool:=match x,c with
    | .bool a, .bool b=>q1 a b
    | .int o a, .int ct b=>f2 o ct&&js a b
    | .str a, .str b=>f5 a b
    | .az, .az=>true
    | .bC, .bC=>true
    | .nilIface, .nilIface=>true
    |_,_=>false
def nR:List y->List y->Bool
 |[],[]=>true
 |a::x,b::c=>sh a b&&nR x c
 |_,_=>false
def known(f:Nat)(args:List y):List (Nat×List y×y)->Option y
 |[]=>none
 |(g,a,v)::k=>aT (Nat.beq f g&&nR args a) (some v)<|known f args k
def iv(f:Nat)(args:List y):Option b1:=
 match C.dy f args with
 |some v=>some (.known f args v)
 |none=>(match C.P.funcs[f]? with
  |some fn=>(match fn.body with
   |some _=>some (.enter f args)
   |none=>none)
  |none=>none)
def l2(fn:Fn)(a args:List y):Option b1:=
 match fn with
 | .func f=>iv C f (args++a)
 | .yield k=>some (.round k args)
 |_=>none
def oh(h:I ae)(t:Nat)(v:y)(name:String)(args:List y):Option b1:=
 match C.P.info? t with
 |some i=>(match i.methods.find? (·.name==name)with
  |some m=>aT m.path.isEmpty (match m.func,C.P.underlying t with
   |some (f,true),some (.pointer _)=>iv C f (v::args)
   |some (f,false),some (.pointer l)=>(match iO C h l v with|some x=>iv C f (x::args)|none=>none)
   |some (f,false),some _=>iv C f (v::args)
   |_,_=>none) none
  |none=>none)
 |none=>none
def sA(h:I ae)(j s:Nat)(a v:y):Option b1:=
 match a with
 | .ptr b D=>aT (Nat.beq v.cells.length s&&Nat.blt 0 s) ((match gX C h b D v.cells with|some E=>some (.cy undef E j)|none=>none))<|none
 |_=>none
def oH(t:Nat)(m o x:Operand)(h:I ae)(j:Nat)(af:Operand->Option y):Option b1:=
 match af m,af o,af x with
 |some m,some o,some v=>pg C h j t m o v
 |_,_,_=>none
def pM(t:Nat)(m o:Operand)(h:I ae)(j:Nat)(af:Operand->Option y):Option b1:=
 match C.P.underlying t,af m,af o with
 |some (.map b c),some (.map r),some o=>(match J C h r with
  |some (.map am a)=>aT (fX C 20 b o) (match findKey C h b o am 0 with
   |some (some (i,v))=>(match hS am i with
    |some (ct,d,born)=>aT (gL 20 ct o) (setObj C h j r (.map (am.set i (o,d,born)) a) (.tuple [v, .int .i64 (Int.ofNat born)])) none
    |none=>none)
   |some none=>(match h1 C c with
    |some z=>setObj C h j r (.map (am++[(o,z,a)]) (a+1)) (.tuple [z, .int .i64 (Int.ofNat a)])
    |none=>none)
   |none=>none) none
  |_=>none)
 |_,_,_=>none
def pJ(m s x:Operand)(h:I ae)(j:Nat)(af:Operand->Option y):Option b1:=
 match af m,af s,af x with
 |some (.map r),some (.int _ (.ofNat born)),some v=>(match J C h r with
  |some (.map am a)=>(match am.findIdx? (λl=>Nat.beq l.2.2 born)with
   |some i=>(match hS am i with
    |some (o,_,b)=>setObj C h j r (.map (am.set i (o,v,b)) a) undef
    |none=>none)
   |none=>none)
  |_=>none)
 |_,_,_=>none
def pL(t:Nat)(k c:Operand)(h:I ae)(j:Nat)(af:Operand->Option y):Option b1:=
 match C.P.underlying t,af k,af c with
 |some (.slice bZ),some k,some c=>(match f3 k,f3 c,C.P.info? bZ,h1 C bZ with
  |some k,some c,some i,some z=>aT (Nat.ble k c&&Nat.ble c 1048576&&Nat.ble i.bytes 65536&&Nat.blt 0 i.size&&Nat.beq z.cells.length i.size) (gt C h j (.cells (I.ofList (eA c z.cells) 0 .nil) (c*i.size) .own) λb=> .slice b 0 k c)<|none
  |_,_,_,_=>none)
 |_,_,_=>none
def pK(t:Nat)(r:Operand)(h:I ae)(j:Nat)(af:Operand->Option y):Option b1:=
 match C.P.underlying t,af r with
 |some (.map _ _),some (.int _ _)=>gt C h j (.map [] 0) λb=> .map b
 |_,_=>none
def pP(s d:Nat)(x:Operand)(h:I ae)(j:Nat)(af:Operand->Option y):Option b1:=
 match C.P.underlying s,C.P.underlying d,af x with
 |some .string,some (.slice l),some (.str k)=>(match C.P.underlying l with
  |some (.int .u8)=>kb C h j k.length 1 (k.map λn=>y.int .u8 (Int.ofNat n))
  |_=>none)
 |some (.slice _),some (.slice l),some (.slice b D len cap)=>(match C.P.underlying l with
  |some (.int .u8)=>aT (Nat.beq s d&&eV C b) (match J C h b with
   |some (.cells c n .own)=>ew (aS C h b (some (.cells c n .marked))) λh=>some (.cy (.slice b D len cap) h j)
   |some (.cells _ _ .marked)=>some (.val (.slice b D len cap))
   |_=>none) none
  |_=>none)
 |_,_,_=>none
def pO(t:Nat)(x:Operand)(h:I ae)(j:Nat)(af:Operand->Option y):Option b1:=
 match C.P.underlying t,af x with
 |some .string,some (.str s)=>gt C h j (.kr s 0) λb=> .ptr b 0
 |some (.map _ _),some .fF=>gt C h j (.eW none 0 [] 0) λb=> .ptr b 0
 |some (.map _ _),some (.map r)=>(match J C h r with
  |some (.map _ a)=>gt C h j (.eW (some r) a [] a) λb=> .ptr b 0
  |_=>none)
 |_,_=>none
def ic(n:Nat):List Nat->Bool
 |[]=>false
 |a::k=>Nat.beq n a||ic n k
def dN(seen:List Nat):List (y×y×Nat)->List (y×y×Nat)
 |[]=>[]
 |l::am=>aT (ic l.2.2 seen) (dN seen am) (l::dN seen am)
def l3(a:Nat):List (y×y×Nat)->Bool
 |[]=>true
 |l::am=>Nat.blt l.2.2 a&&l3 a am
def kH(a:Nat):List (y×y×Nat)->Bool
 |[]=>false
 |l::am=>Nat.blt l.2.2 a||kH a am
def rz(C:aC)(h:I ae)(r m c a:Nat)(seen:List Nat):List (y×y×Nat)->List (y×I ae)
 |[]=>[]
 |(o,v,b)::k=>(.tuple [.bool true,o,v],aS C h r (some (.eW (some m) c (seen++[b]) a)))::rz C h r m c a seen k
def ot:List (y×y×Nat)->List Nat->Bool
 |[],[]=>true
 |l::am,b::bO=>Nat.beq l.2.2 b&&ot am bO
 |_,_=>false
def q6(C:aC)(h:I ae)(r:Nat)(D:Option Nat->ae):List (y×y×Nat)->List (y×I ae)
 |[]=>[]
 |(o,v,b)::k=>(.tuple [.bool true,o,v],aS C h r (some (D (some b))))::q6 C h r D k
def pN(i:Operand)(g:Bool)(h:I ae)(j:Nat)(af:Operand->Option y):Option b1:=
 match af i with
 |some (.ptr r 0)=>aT (eV C r) (match J C h r,g with
  |some (.kr s pos),true=>aT (Nat.blt pos s.length) (match hS s pos with
    |some c=>aT (Nat.blt c 128) (setObj C h j r (.kr s (pos+1)) (.tuple [.bool true, .int .i64 (Int.ofNat pos), .int .i32 (Int.ofNat c)])) none
    |none=>none)
   (some (.val (.tuple [.bool false])))
  |some (.eW none _ _ _),false=>some (.val (.tuple [.bool false]))
  |some (.eW (some m) a seen f),false=>(match J C h m with
   |some (.map am d)=>(match dN seen am with
    |[]=>aT (l3 a am) (aT (kH f am||seen.isEmpty||am.isEmpty) (some (.val (.tuple [.bool false]))) none) none
    |[(o,v,b)]=>aT (l3 a am&&kH f am) (setObj C h j r (.eW (some m) a (seen++[b]) d) (.tuple [.bool true,o,v])) none
    |k=>aT (l3 a am&&kH f am) (some (.fork (rz C h r m a d seen k))) none)
   |_=>none)
  |some (.jB m a n bO st _),false=>(match J C h m with
   |some (.map am d)=>aT ((ot am bO&&Nat.beq st d)&&(l3 a am&&kH st am)) (match n with
    |0=>some (.val (.tuple [.bool false]))
    |n+1=>some (.fork ((.tuple [.bool false],h)::q6 C h r (.jB m a n bO st) am))) none
   |_=>none)
  |_,_=>none) none
 |_=>none
def t1(x:Operand)(_:I ae)(_:Nat)(af:Operand->Option y):Option b1:=
 match af x with|some (.iface t v)=>some (.panic (.iface t v))|_=>none
def tZ(c:Call)(_:I ae)(_:Nat)(af:Operand->Option y):Option b1:=
 match c with
 |⟨.value f,args,_⟩=>(match af f,hm af args.toList with
  |some (.func fn first b),some a=>some (.defer ⟨.fn fn b,first++a⟩)
  |_,_=>none)
 |_=>none
def pI(b:Builtin)(args:Array Operand)(bw:Array TypeId)(h:I ae)(j:Nat)(af:Operand->Option y):Option b1:=
 match b,hm af args.toList with
 | .append,some [s,x]=>(match bw.toList with
   |st::d7::_=>(match C.P.underlying d7 with
    |some (.int _)=>(match f3 x with|some n=>qQ C h j st s n|none=>none)
    |some (.slice _)=>og C h j st s x
    |some .string=>og C h j st s x
    |_=>none)
   |_=>none)
 | .copy,some [d,x]=>(match bw.toList with
   |st::_=>qO C h j st d x
   |_=>none)
 | .recover,some []=>some .recover
 | .clear,some [x]=>(match bw.toList with
   |t::_=>qN C h j t x
   |_=>none)
 | .delete,some [m,o]=>(match bw.toList with
   |t::_=>qP C h j t m o
   |_=>none)
 |_,_=>none
def nv(c:Call)(h:I ae)(j:Nat)(af:Operand->Option y):Option b1:=
 match c with
 |⟨.value f,args,_⟩=>(match af f,hm af args.toList with
  |some (.func fn first d),some a=>l2 C fn d (first++a)
  |_,_=>none)
 |⟨.builtin b,args,bw⟩=>pI C b args bw h j af
 |⟨.invoke r name,args,_⟩=>(match af r,hm af args.toList with
  |some (.iface t v),some a=>oh C h t v name a
  |_,_=>none)
def gi(D:Op):aC->I ae->Nat->(Operand->Option y)->Option b1:=
 match D with
 | .mapUpdate t m o x=>λC=>oH C t m o x
 | .insert t m o x=>λC=>oH C t m o x
 | .mapEntry t m o=>λC=>pM C t m o
 | .entryStore _ m s x=>λC=>pJ C m s x
 | .makeSlice t k c=>λC=>pL C t k c
 | .makeMap t (some r)=>λC=>pK C t r
 | .convert s d x=>λC=>pP C s d x
 | .range t x=>λC=>pO C t x
 | .next b a=>λC=>pN C b a
 | .panic x=>λ_=>t1 x
 | .defer c=>λ_=>tZ c
 | .call c=>λC=>nv C c
 |_=>λ_ _ _ _=>none
end ad
def fd(x:eT):List (Nat×y)->I y->Option y:=
 match x with
 | .v H=>λaa _=>cf aa H
 | .t n=>λ_ B=>B.get n
 | .c a=>λ_ _=>some a
def me(aa:List (Nat×y))(B:I y):List eT->Option (List y)
 |[]=>some []
 |x::k=>match fd x aa B with
  |none=>none
  |some v=>match me aa B k with
   |none=>none
   |some r=>some (v::r)
def ek(a6:List (Nat×Nat))(aa:List (Nat×y))(B:I y)(D:Operand):Option y:=match D with
 | .tmp t=>(match cf a6 t with|some H=>cf aa H|none=>B.get t)
 | .const v=>nJ v
 | .global g=>some (.ptr g 0)
 | .func f=>some (.func (.func f) [] [])
def aq(d:Nat)(v:y):Option y:=match v with| .ptr b D=>some (.ptr b (D+d))|_=>none
def sK(c:y)(a b:eT)(aa:List (Nat×y))(B:I y):Option y:=match c with
 | .bool c=>aT c (fd a aa B) (fd b aa B)
 |_=>none
def sJ(n ap:Nat)(x:y)(i:Nat):Option y:=match x with| .ptr b D=>aT (Nat.blt i n) (some (.ptr b (D+i*ap))) none|_=>none
def mT(ap:Nat)(x:y)(i:Nat):Option y:=match x with
 | .slice b D len _=>aT (Nat.blt i len) (some (.ptr b (D+i*ap))) none
 | .cK b D len _=>aT (Nat.blt i len) (some (.ptr b (D+i*ap))) none
 |_=>none
def a2(v:y):Option y:=match v with
 | .ptr b D=>some (.ptr b D)
 | .func fn a b=>(match fn with| .func f=>some (.func (.func f) a b)| .yield f=>some (.func (.yield f) a b)|_=>none)
 | .iface t v=>some (.iface t v)
 |_=>none
def dD(i:Nat)(v:y):Option y:=match v with| .tuple aE=>hS aE i|_=>none
def dk(D:eD):aC->I ae->List (Nat×y)->I y->Option y:=
 match D with
 | .nE x=>λ_ _=>fd x
 | .pick c a b=>λ_ _ aa B=>(match fd c aa B with|some c=>sK c a b aa B|none=>none)
 | .cZ a=>λC h aa B=>(match fd a aa B with|some a=>W C h a|none=>none)
 | .mx n a=>λC h aa B=>(match fd a aa B with|some a=>br C h n a|none=>none)
 | .off d x=>λ_ _ aa B=>(match fd x aa B with|some a=>aq d a|none=>none)
 | .mr n ap x i=>λ_ _ aa B=>(match fd x aa B with|some a=>(match fd i aa B with|some i=>(match f3 i with|some i=>sJ n ap a i|none=>none)|none=>none)|none=>none)
 | .ms ap x i=>λ_ _ aa B=>(match fd x aa B with|some a=>(match fd i aa B with|some i=>(match f3 i with|some i=>mT ap a i|none=>none)|none=>none)|none=>none)
 | .nH x=>λ_ _ aa B=>(match fd x aa B with|some a=>a2 a|none=>none)
 | .pR op x f=>λ_ _ aa B=>(match fd x aa B with|some a=>(match fd f aa B with|some b=>ah op a b|none=>none)|none=>none)
 | .ext i x=>λ_ _ aa B=>(match fd x aa B with|some a=>dD i a|none=>none)
 | .dV a6 D=>λC h aa B=>gB D C h (ek a6 aa B)
 |_=>λ_ _ _ _=>none
def gG(D:eD):aC->Nat->List (Nat×y)->I y->Option (y×ae):=
 match D with
 | .make a6 D=>λC b aa B=>hH D C (ek a6 aa B) b
 |_=>λ_ _ _ _=>none
def dQ(D:eD):aC->I ae->Nat->List (Nat×y)->I y->Option b1:=
 match D with
 | .st n a v=>λC h j aa B=>(match fd a aa B with|some a=>(match fd v aa B with|some v=>sA C h j n a v|none=>none)|none=>none)
 | .call f args=>λC _ _ aa B=>(match me aa B args with|some b=>iv C f b|none=>none)
 | .cB a6 D=>λC h j aa B=>gi D C h j (ek a6 aa B)
 |_=>λ_ _ _ _ _=>none
inductive Bn where|dV|make|cB
def f1(D:eD):Bn:=match D with
 | .st .. => .cB| .call .. => .cB| .cB .. => .cB
 | .make .. => .make
 |_=> .dV
def rY(D:eD)(C:aC)(h:I ae)(j:Nat)(aa:List (Nat×y))(B:I y):Option b1:=
 hL j λj=>(match gG D C j aa B with|some (v,bN)=>ew (aS C h j (some bN)) λh=>some (.cy v h (j+1))|none=>none)
def cF(m i:Nat):Bool:=Nat.beq (Nat.mod (Nat.div m (Nat.pow 2 i)) 2) 1
def f7(a6:List (Nat×Nat))(D:Operand):Option eT:=match D with
 | .tmp t=>(match cf a6 t with|some H=>some (.v H)|none=>some (.t t))
 | .const v=>(match nJ v with|some a=>some (.c a)|none=>none)
 | .global g=>some (.c (.ptr g 0))
 | .func f=>some (.c (.func (.func f) [] []))
def o9(a6:List (Nat×Nat)):List Operand->Option (List eT)
 |[]=>some []
 |x::k=>match f7 a6 x,o9 a6 k with|some v,some r=>some (v::r)|_,_=>none
def GV(C:aC)(s d:Nat):Bool:=match C.P.underlying s,C.P.underlying d with
 |some .string,some (.slice _)=>true
 |some (.slice _),some (.slice _)=>true
 |_,_=>false
def GS(C:aC)(t:Nat):Bool:=match C.P.underlying t with|some (.int _)=>true|_=>false
def fA(C:aC)(a6:List (Nat×Nat))(D:Op):Option eD:=
 match D with
 | .move x| .assign x=>(match f7 a6 x with|some x=>some (.nE x)|none=>none)
 | .pick c a b=>(match f7 a6 c,f7 a6 a,f7 a6 b with|some c,some a,some b=>some (.pick c a b)|_,_,_=>none)
 | .load t a=>(match f7 a6 a,nw C t,ea C t with
   |some a,some true,some s=>some (.mx s a)
   |some a,some false,_=>some (.cZ a)
   |_,_,_=>none)
 | .fieldAddr s x f=>(match C.P.underlying s,f7 a6 x with
   |some (.struct G),some x=>(match hS G.toList f with
    |some v=>(match ea C v.type with|some z=>aT (Nat.beq z 0) (none)<|some (.off v.offset x)|none=>none)
    |none=>none)
   |_,_=>none)
 | .indexAddr t x i=>(match C.P.underlying t,f7 a6 x,f7 a6 i with
   |some (.array n bZ),some x,some i=>(match ea C bZ with|some ap=>some (.mr n ap x i)|none=>none)
   |some (.slice bZ),some x,some i=>(match ea C bZ with|some ap=>some (.ms ap x i)|none=>none)
   |_,_,_=>none)
 | .nilCheck x=>(match f7 a6 x with|some x=>some (.nH x)|none=>none)
 | .binOp op t x g O=>aT (GS C t) ((match f7 a6 x,f7 a6 g with|some x,some g=>some (.pR op x g)|_,_=>none))<|some (.dV a6 (.binOp op t x g O))
 | .extract x i=>(match f7 a6 x with|some x=>some (.ext i x)|none=>none)
 | .store t a x=>(match f7 a6 a,f7 a6 x,ea C t with|some a,some x,some s=>some (.st s a x)|_,_,_=>none)
 | .call ⟨.value (.func f),args,bw⟩=>(match o9 a6 args.toList with|some w=>some (.call f w)|none=>none)
 | .call ⟨.builtin b,args,bw⟩=>(match b with
   | .len| .cap| .max| .min=>some (.dV a6 (.call ⟨.builtin b,args,bw⟩))
   |_=>some (.cB a6 (.call ⟨.builtin b,args,bw⟩)))
 | .call c=>some (.cB a6 (.call c))
 | .convert s d x=>aT (GV C s d) (some (.cB a6 (.convert s d x)))<|some (.dV a6 (.convert s d x))
 | .alloc t=>some (.make a6 (.alloc t))
 | .box t x=>some (.make a6 (.box t x))
 | .buildSlice t k p=>some (.make a6 (.buildSlice t k p))
 | .makeMap t none=>some (.make a6 (.makeMap t none))
 | .makeMap t (some r)=>some (.cB a6 (.makeMap t (some r)))
 | .mapUpdate t m o x=>some (.cB a6 (.mapUpdate t m o x))
 | .insert t m o x=>some (.cB a6 (.insert t m o x))
 | .mapEntry t m o=>some (.cB a6 (.mapEntry t m o))
 | .entryStore t m s x=>some (.cB a6 (.entryStore t m s x))
 | .makeSlice t k c=>some (.cB a6 (.makeSlice t k c))
 | .range t x=>some (.cB a6 (.range t x))
 | .next i s=>some (.cB a6 (.next i s))
 | .panic x=>some (.cB a6 (.panic x))
 | .defer c=>some (.cB a6 (.defer c))
 |D=>some (.dV a6 D)
def j7(H:Nat):List (Nat×Nat)->Option Nat
 |[]=>none
 |(t,i)::k=>aT (Nat.beq i H) (some t)<|j7 H k
def ps(wr:List (Nat×Nat))(g:Option (Nat×Bool)):Option (Option (Nat×Bool)):=match g with
 |none=>some none
 |some (H,b)=>(match j7 H wr with
  |some t=>(match cf wr t with
   |some a=>aT (Nat.beq H a) (some (some (H,b)))<|none
   |none=>none)
  |none=>none)
def kG(D:Oper)(i:Nat)(wr:List (Nat×Nat)):List (Nat×Nat):=match D.dst with|some d=>(d,i)::wr|none=>wr
def ri(n:Nat)(D:Oper):Bool:=match D.dst with|some d=>Nat.blt d n|none=>true
def lu(C:aC)(ac:Nat)(a6:List (Nat×Nat))(D:Operand):Bool:=match D with
 | .tmp t=>(match cf a6 t with|some _=>true|none=>cF ac t)
 | .global g=>Nat.blt g C.cL
 |_=>true
def nL(C:aC)(ac:Nat)(a6:List (Nat×Nat)):List Operand->Bool
 |[]=>true
 |x::k=>lu C ac a6 x&&nL C ac a6 k
def ix(C:aC)(n ac:Nat):List Oper->Nat->List (Nat×Nat)->Option (List cE)
 |[],_,_=>some []
 |D::k,i,wr=>hL i λi=>match ps wr D.guard,fA C wr D.op with
  |some g,some op=>aT (ri n D&&nL C ac wr D.op.operands.toList) (match ix C n ac k (i+1) (kG D i wr)with|some r=>some (⟨i,g,op⟩::r)|none=>none) none
  |_,_=>none
def ff(ac:Nat):List Oper->Nat->List (Nat×Nat)
 |[],_=>[]
 |D::k,i=>match D.dst with
  |some d=>aT (cF ac d) ((i,d)::ff ac k (i+1))<|ff ac k (i+1)
  |none=>ff ac k (i+1)
def dstsOf:List Oper->List Nat
 |[]=>[]
 |D::k=>match D.dst with|some d=>d::dstsOf k|none=>dstsOf k
structure sQ where
 rest:List cE
 fin:List (Nat×Nat)
def qf(C:aC)(n:Nat)(ad:Array Oper)(ac:Nat):Option sQ:=
 match ix C n ac ad.toList 0 []with
 |some cs=>some ⟨cs,ff ac ad.toList 0⟩
 |none=>none
def oW(D:Operand)(m:Nat):Nat:=match D with| .tmp t=>Nat.lor m (Nat.pow 2 t)|_=>m
def oX(k:List Operand):Nat:=k.foldr oW 0
def py(D:Oper):Nat:=match D.dst with|some d=>Nat.pow 2 d|none=>0
def rI(wr:List (Nat×Nat))(g:Option (Nat×Bool)):Nat:=match g with
 |none=>0
 |some (H,_)=>(match j7 H wr with|some t=>Nat.pow 2 t|none=>0)
def nl(a:List (Nat×Nat))(l:Edge)(m:Nat):Nat:=
 aT (cF m l.on) (m)<|aT (Region.binds .any l) ((match cf a l.on with|some o=>Nat.lor (Nat.lor m o) (Nat.pow 2 l.on)|none=>m))<|m
structure c1 where
 i:Nat
 m:Nat
 r:Nat
 w:Nat
def mC:List Oper->Nat->List (Nat×Nat)->List (Nat×Nat)->List c1
 |[],_,_,_=>[]
 |D::k,i,wr,a=>hL i λi=>hL (D.after.toList.foldr (nl a) 0) λm=>
  ⟨i,m,Nat.lor (oX D.op.operands.toList) (rI wr D.guard),py D⟩::mC k (i+1) (kG D i wr) ((i,m)::a)
def r8(a b:c1):Bool:=
 cF b.m a.i||(Nat.beq (Nat.land a.w (Nat.lor b.r b.w)) 0&&Nat.beq (Nat.land b.w a.r) 0)
def r9(a:c1):List c1->Bool
 |[]=>true
 |b::k=>r8 a b&&r9 a k
def ql:List c1->Bool
 |[]=>true
 |a::k=>r9 a k&&ql k
def pQ:List c1->Bool
 |[]=>true
 |a::k=>(match k with|[]=>true|b::_=>cF b.m a.i)&&pQ k
def nK:List Oper->Nat->Bool
 |[],_=>true
 |D::k,i=>D.after.toList.all (λl=> !Region.binds .any l||Nat.blt l.on i)&&nK k (i+1)
def jl(m:Nat):List c1->Nat
 |[]=>0
 |e::k=>aT (cF m e.i) (Nat.succ (jl m k))<|jl m k
def mo(i:Nat):List c1->Nat
 |[]=>0
 |e::k=>aT (cF e.m i) (0)<|Nat.succ (mo i k)
structure hg where
 x:cE
 aF:Nat
 ak:Nat
def gq(D:eD):Bool:=match f1 D with| .cB=>true|_=>false
def oJ:List c1->List cE->List (c1×cE)
 |p::bH,c::cs=>aT (gq c.op) ((p,c)::oJ bH cs)<|oJ bH cs
 |_,_=>[]
def oR(a:List c1):List c1->List cE->List hg
 |p::bH,c::cs=>aT (gq c.op) (oR a bH cs)<|⟨c,jl p.m a,mo p.i a⟩::oR a bH cs
 |_,_=>[]
def iP(o:Nat):List hg->List cE
 |[]=>[]
 |k::d6=>aT (Nat.beq k.aF o) (k.x::iP o d6)<|iP o d6
def nV(o:Nat):List hg->List cE
 |[]=>[]
 |k::d6=>aT (Nat.blt k.aF o&&Nat.ble o k.ak&&mO k.x.op) (k.x::nV o d6)<|nV o d6
def ln(d6:List hg):Nat->List (c1×cE)->List jV
 |o,[]=>[⟨iP o d6,nV o d6,none⟩]
 |o,(_,a)::k=>⟨iP o d6,nV o d6,some a⟩::ln d6 (o+1) k
def hM:List (c1×cE)->List c1
 |[]=>[]
 |(p,_)::k=>p::hM k
structure sP where
 fj:List jV
 fin:List (Nat×Nat)
def qc(C:aC)(n:Nat)(ad:Array Oper)(ac:Nat):Option sP:=
 match ix C n ac ad.toList 0 []with
 |none=>none
 |some cs=>(λall=>(λa=>aT (nK ad.toList 0&&ql all&&pQ (hM a)) (some ⟨ln (oR (hM a) all cs) 0 a,ff ac ad.toList 0⟩)<|none) (oJ all cs)) (mC ad.toList 0 [] [])
def xJ:List Oper->Nat->Nat->Nat
 |[],_,r=>r
 |D::k,a,r=>xJ k (Nat.lor a (py D)) ((λrd=>Nat.lor r (Nat.xor rd (Nat.land rd a))) (oX D.op.operands.toList))
def ft:Code->Nat
 | .region _ ad _=>xJ ad.toList 0 0
 | .seq a b=>Nat.lor (ft a) (ft b)
 | .cond c a b=>oW c (Nat.lor (ft a) (ft b))
 | .block _ b=>ft b
 | .loop b=>ft b
 | .scope b=>ft b
 | .rangeFunc f _ a b=>oW f (Nat.lor (ft a) (ft b))
 |_=>0
def hV(k:List ResultVar):Nat:=k.foldr (λx r=>match x with| .tmp t=>Nat.lor r (Nat.pow 2 t)| .cell a _=>Nat.lor r (Nat.pow 2 a)) 0
def fC(C:aC)(ac:Nat):Code->Bool
 | .seq a b=>fC C ac a&&fC C ac b
 | .cond c a b=>lu C ac [] c&&(fC C ac a&&fC C ac b)
 | .block _ b=>fC C ac b
 | .loop b=>fC C ac b
 | .scope b=>fC C ac b
 | .rangeFunc f _ a b=>lu C ac [] f&&(fC C ac a&&fC C ac b)
 |_=>true
def lx(ac:Nat):List ResultVar->Bool
 |[]=>true
 | .tmp t::k=>cF ac t&&lx ac k
 | .cell a _::k=>cF ac a&&lx ac k
end
end Go.S
@[match_pattern]abbrev Go.S.y.Z(x:Int):Go.S.y:=.int .i64 x
@[match_pattern]abbrev Go.S.y.zF:Go.S.y:=.bool false
@[match_pattern]abbrev Go.S.y.zT:Go.S.y:=.bool true
namespace Go.S
@[simp] def cS{α:Type _}(a b:α):aT true a b=a:=rfl
@[simp] def fB{α:Type _}(a b:α):aT false a b=b:=rfl
def cN{α:Type _}(c:Bool)(a b:α):aT c a b=if c=true then a else b:=by cases c<;>rfl
def d5{α:Type _}(x c:Nat)(a b:α):aT (Nat.beq x c) a b=if x=c then a else b:=by
 rw[cN];by_cases e:x=c
 ·rw[Zv e,Zv (Nat.beq_eq▸e)]
 ·rw[Zj e,Zj (λl=>e (Zh l))]
@[simp] def cg{α:Type _}(c:Bool)(a:Option α)(v:α):aT c a none=some v↔c=true/\a=some v:=by cases c<;>simp
@[simp] def fZ{a:Type}(n:Nat)(o:Nat->a):hL n o=o n:=by cases n<;>rfl
@[simp] def ry{a:Type}(n:Int)(o:Int->a):tS n o=o n:=by
  cases n with
  |ofNat m=>exact fZ m λm=>o (.ofNat m)
  |negSucc m=>exact fZ m λm=>o (.negSucc m)
@[simp] def dF{α a:Type}(t:I α)(o:I α->a):ew t o=o t:=by cases t<;>rfl
@[simp] def Ei{α:Type}(H:Nat):cf ([]:List (Nat×α)) H=none:=rfl
def h7{α:Type}(a:Nat)(b:α)(k:List (Nat×α))(H:Nat):cf ((a,b)::k) H=if a=H then some b else cf k H:=by
 show aT (Nat.beq a H) (some b) (cf k H)=_
 rw[d5]
@[simp] def ih{α:Type}(k:List α):∀i,hS k i=k[i]? :=by
  induction k with
  |nil=>intro i;rfl
  |cons a k V=>intro i;cases i with
   |zero=>rfl
   |succ H=>exact V H
namespace I
variable{α:Type}
@[simp] def LM(i:Nat):(I.nil:I α).get i=none:=rfl
@[simp] def LN(v:Option α)(k r:I α):(I.node v k r).get 0=v:=rfl
def mj(v:Option α)(k r:I α)(H:Nat):(I.node v k r).get (H+1)=if H%2=0 then k.get (H/2)else r.get (H/2):=by
 show aT (Nat.beq (H%2) 0) (k.get (H/2)) (r.get (H/2))=_
 rw[d5]
def Kc(f:Nat)(a:Option α):ik (f+1) I.nil 0 a= .node a .nil .nil:=rfl
def Kb(f H:Nat)(a:Option α):ik (f+1) I.nil (H+1) a=
 if H%2=0 then .node none (ik f .nil (H/2) a) .nil else .node none .nil (ik f .nil (H/2) a):=by
 show aT (Nat.beq (H%2) 0) (ew (ik f .nil (H/2) a) λb=>I.node none b I.nil) (ew (ik f .nil (H/2) a) λc=>I.node none I.nil c)=_
 rw[d5,dF,dF]
def Ke(f:Nat)(v:Option α)(k r:I α)(a:Option α):ik (f+1) (.node v k r) 0 a= .node a k r:=rfl
def Kd(f H:Nat)(v:Option α)(k r:I α)(a:Option α):ik (f+1) (.node v k r) (H+1) a=
 if H%2=0 then .node v (ik f k (H/2) a) r else .node v k (ik f r (H/2) a):=by
 show aT (Nat.beq (H%2) 0) (ew (ik f k (H/2) a) λb=>I.node v b r) (ew (ik f r (H/2) a) λc=>I.node v k c)=_
 rw[d5,dF,dF]
def Gr:∀(f:Nat) (t:I α) (i H:Nat) (a:Option α),i<f->(ik f t i a).get H=if i=H then a else t.get H:=by
 intro f
 induction f with
 |zero=>intro t i H a e;omega
 |succ f V=>
  intro t i H a e
  cases i with
  |zero=>
   cases t with
   |nil=>rw[Kc];cases H with
    |zero=>simp
    |succ H=>rw[mj];simp
   |node v k r=>rw[Ke];cases H with
    |zero=>simp
    |succ H=>rw[mj,mj];simp
  |succ i=>
   have ak:i/2<f:=Zo
   cases t with
   |nil=>
    rw[Kb]
    cases H with
    |zero=>split<;>simp
    |succ H=>
     by_cases l:i%2=0
     ·rw[Zv l,mj]
      by_cases b:H%2=0
      ·rw[Zv b,V _ _ _ _ ak]
       by_cases L:i/2=H/2
       ·rw[Zv L,Zv Zo]
       ·rw[Zj L,Zj Zo];rfl
      ·rw[Zj b,Zj Zo];rfl
     ·rw[Zj l,mj]
      by_cases b:H%2=0
      ·rw[Zv b,Zj Zo];rfl
      ·rw[Zj b,V _ _ _ _ ak]
       by_cases L:i/2=H/2
       ·rw[Zv L,Zv Zo]
       ·rw[Zj L,Zj Zo];rfl
   |node v k r=>
    rw[Kd]
    cases H with
    |zero=>split<;>simp
    |succ H=>
     rw[mj v k r]
     by_cases l:i%2=0
     ·rw[Zv l,mj]
      by_cases b:H%2=0
      ·rw[Zv b,Zv b,V _ _ _ _ ak]
       by_cases L:i/2=H/2
       ·rw[Zv L,Zv Zo]
       ·rw[Zj L,Zj Zo]
      ·rw[Zj b,Zj b,Zj Zo]
     ·rw[Zj l,mj]
      by_cases b:H%2=0
      ·rw[Zv b,Zv b,Zj Zo]
      ·rw[Zj b,Zj b,V _ _ _ _ ak]
       by_cases L:i/2=H/2
       ·rw[Zv L,Zv Zo]
       ·rw[Zj L,Zj Zo]
def gn(t:I α)(i H:Nat)(a:Option α):(t.set i a).get H=if i=H then a else t.get H:=Gr _ _ _ _ _ Zo
def rD(k:List α):∀(i:Nat) (t:I α) (H:Nat),(ofList k i t).get H=if i<=H/\H<i+k.length then k[H-i]? else t.get H:=by
 induction k with
 |nil=>intro i t H;simp only[ofList,Z0];rw[Zj Zo]
 |cons a k V=>
  intro i t H
  simp only[ofList,dF]
  rw[V,gn]
  by_cases l:i=H
  ·subst l;rw[Zj Zo,Zv rfl,Zv Zs];simp
  ·rw[Zj l]
   by_cases L:i+1<=H/\H<i+1+k.length
   ·rw[Zv L,Zv Zx]
    have:H-i=(H-(i+1))+1:=Zo
    rw[this,ZN]
   ·rw[Zj L,Zj Zx]
def rC(t:I α):∀(n D:Nat) (k:List α),t.eM D n=some k->k.length=n/\∀i,i<n->t.get (D+i)=k[i]? :=by
 intro n
 induction n with
 |zero=>intro D k e;simp[eM]at e;subst e;simp
 |succ n V=>
  intro D k e
  simp only[eM]at e
  cases b:t.get D with
  |none=>simp[b]at e
  |some a=>
   simp only[b]at e
   cases M:eM t (D+1) n with
   |none=>simp[M]at e
   |some r=>
    simp only[M,Zu]at e
    subst e
    obtain⟨c,d⟩:=V _ _ M
    refine⟨by simp[c],λi ak=> ?_⟩
    cases i with
    |zero=>simpa using b
    |succ i=>rw[show D+(i+1)=D+1+i by omega,d i Zo];simp
end I
def vl(k:List y):∀(c:I y) (D:Nat),cO c D k=I.ofList k D c:=by
 induction k with
 |nil=>intro c D;rfl
 |cons v k V=>intro c D;simp only[cO,I.ofList,dF];exact V _ _
structure fU where
 bc:Nat
 b5:Nat
 room:Nat
 deriving Inhabited
abbrev bE:=Nat->fU
def ga(A:bE):Fn->Fn
 | .yield k=> .yield (A k).bc
 |f=>f
def cI(s:List Nat):ByteArray:=⟨(s.map UInt8.ofNat).toArray⟩
mutual
def ai(A:bE):y->Value
 | .bool b=> .bool b
 | .int o n=> .int o n
 | .str s=> .string (cI s)
 | .ptr b D=> .pointer (some ⟨(A b).bc,(A b).b5+D,none⟩)
 | .bC=> .pointer none
 | .slice b D len cap=> .slice (some ⟨(A b).bc,(A b).b5+D,none⟩) len cap
 | .cK b D len ap=> .slice (some ⟨(A b).bc,(A b).b5+D,none⟩) len (((A b).room-D)/ap)
 | .az=> .slice none 0 0
 | .map m=> .map (some (A m).bc)
 | .fF=> .map none
 | .func fn a b=> .func (ga A fn) (aU A a).toArray (aU A b).toArray
 | .nilFunc=> .nilFunc
 | .iface t v=> .iface t (ai A v)
 | .nilIface=> .nilIface
 | .agg cs=> .agg (aU A cs).toArray
 | .tuple aE=> .tuple (aU A aE).toArray
def aU(A:bE):List y->List Value
 |[]=>[]
 |v::k=>ai A v::aU A k
end
def hk(A:bE)(k:List y):aU A k=k.map (ai A):=by
 induction k with
 |nil=>rfl
 |cons v k V=>simp[aU,V]
def rF(F:Nat->Prop):Fn->Prop
 | .yield k=>F k
 | .func _=>True
 |_=>False
mutual
def bd(F:Nat->Prop):y->Prop
 | .bool _=>True
 | .int _ _=>True
 | .str s=>∀x∈s,x<256
 | .ptr b _=>F b
 | .bC=>True
 | .slice b _ _ _=>F b
 | .cK b _ _ _=>F b
 | .az=>True
 | .map m=>F m
 | .fF=>True
 | .func fn a b=>rF F fn/\cd F a/\cd F b
 | .nilFunc=>True
 | .iface _ v=>bd F v
 | .nilIface=>True
 | .agg cs=>cd F cs
 | .tuple aE=>cd F aE
def cd(F:Nat->Prop):List y->Prop
 |[]=>True
 |v::k=>bd F v/\cd F k
end
def iU(F:Nat->Prop)(k:List y):cd F k↔∀v∈k,bd F v:=by
 induction k with
 |nil=>simp[cd]
 |cons v k V=>simp[cd,V]
mutual
def tl{A d:bE}{F:Nat->Prop}(e:∀b,F b->A b=d b):∀v,bd F v->ai A v=ai d v
 | .bool _,_=>rfl
 | .int _ _,_=>rfl
 | .str _,_=>rfl
 | .ptr b D,g=>by simp only[ai,e b g]
 | .bC,_=>rfl
 | .slice b D k c,g=>by simp only[ai,e b g]
 | .cK b D k c,g=>by simp only[ai,e b g]
 | .az,_=>rfl
 | .map m,g=>by simp only[ai,e m g]
 | .fF,_=>rfl
 | .func fn a b,g=>by
   obtain⟨f,i,n⟩:=g
   have l:ga A fn=ga d fn:=by
    cases fn<;>simp only[ga]
    rw[e _ f]
   simp only[ai,l,ox e a i,ox e b n]
 | .nilFunc,_=>rfl
 | .iface t v,g=>by simp only[ai,tl e v g]
 | .nilIface,_=>rfl
 | .agg cs,g=>by simp only[ai,ox e cs g]
 | .tuple aE,g=>by simp only[ai,ox e aE g]
def ox{A d:bE}{F:Nat->Prop}(e:∀b,F b->A b=d b):∀k,cd F k->aU A k=aU d k
 |[],_=>rfl
 |v::k,g=>by simp only[aU,tl e v g.1,ox e k g.2]
end
mutual
def g3{F bm:Nat->Prop}(e:∀b,F b->bm b):∀v,bd F v->bd bm v
 | .bool _,_=>trivial
 | .int _ _,_=>trivial
 | .str _,g=>g
 | .ptr b _,g=>e b g
 | .bC,_=>trivial
 | .slice b _ _ _,g=>e b g
 | .cK b _ _ _,g=>e b g
 | .az,_=>trivial
 | .map m,g=>e m g
 | .fF,_=>trivial
 | .func fn a b,g=>⟨by cases fn<;>first|exact e _ g.1|exact g.1,h9 e a g.2.1,h9 e b g.2.2⟩
 | .nilFunc,_=>trivial
 | .iface _ v,g=>g3 e v g
 | .nilIface,_=>trivial
 | .agg cs,g=>h9 e cs g
 | .tuple aE,g=>h9 e aE g
def h9{F bm:Nat->Prop}(e:∀b,F b->bm b):∀k,cd F k->cd bm k
 |[],_=>trivial
 |v::k,g=>⟨g3 e v g.1,h9 e k g.2⟩
end
open Go.RowKit (Below)
structure es(A:bE)(F:Nat->Prop)(n ac:Nat)(B:I y)(tmps:Array Value):Prop where
 size:tmps.size=n
 val:∀t v,cF ac t=true->B.get t=some v->tmps[t]? =some (ai A v)/\bd F v
def sS(C:aC)(fn ac:Nat):Prop:=∃f,C.P.funcs[fn]? =some f/\lx ac f.results.toList=true
def oM(c:Code):Prop:=c= .ret\/∃id,c= .exit id
def nd(A:bE):sL->Target
 | .fn fn a=> .fn (ga A fn) (aU A a).toArray
 | .collected r=> .collected (A r).bc
def fz(A:bE)(d:dM):Deferred:=⟨nd A d.target,(aU A d.args).toArray⟩
def Gt(F:Nat->Prop):sL->Prop
 | .fn fn a=>rF F fn/\cd F a
 | .collected r=>F r
def ka(F:Nat->Prop)(d:dM):Prop:=Gt F d.target/\cd F d.args
def ob(st:h5)(n:Nat)(pl:fU)(ap aF ak:Nat):Prop:=match st with
 | .own=>aF=ak
 | .marked=>aF=ak\/ap<=aF
 | .grow _=>(aF=ak\/ap<=aF)/\n<=pl.room/\pl.b5+pl.room<=ap
 | .eC=>True/\n<=pl.room/\pl.b5+pl.room<=ap
def ob.free{st:h5}{n:Nat}{pl:fU}{ap aF ak:Nat}(e:ob st n pl ap aF ak)(a:st≠ .eC):ak<=aF\/ap<=aF:=by
 cases st with
 |own=>exact .inl (zf e.symm)
 |marked=>exact e.imp (λl=>zf l.symm) id
 |grow _=>exact e.1.imp (λl=>zf l.symm) id
 |eC=>exact absurd rfl a
def cJ(A:bE)(l:y×y×Nat):MapEntry:=⟨ai A l.1,ai A l.2.1,l.2.2⟩
def eF(C:aC)(A:bE)(F:Nat->Prop)(D:ae)(pl:fU)(w:World):Prop:=match D with
 | .cells c n st=>∃a7 ty aF ak,w.heap[pl.bc]? =some (.cells a7 ty (aF,ak))/\ob st n pl a7.size aF ak/\pl.b5+n<=a7.size/\
    ∀i v,c.get i=some v->a7[pl.b5+i]? =some (ai A v)/\bd F v
 | .map am a=>∃a7,w.heap[pl.bc]? =some (.map a7 a)/\a7.toList=am.map (cJ A)/\∀l∈am,bd F l.1/\bd F l.2.1
 | .look am=>∃(a7:Array MapEntry) (a:Nat) (eu:List (y×y×Nat)),w.heap[pl.bc]? =some (.map a7 a)/\a7.toList=eu.map (cJ A)/\(eu.map λl=>(l.1,l.2.1)).Perm am/\∀l∈eu,bd F l.1/\bd F l.2.1
 | .kr s pos=>pl.b5=0/\w.heap[pl.bc]? =some (.stringIter (cI s) pos)/\∀x∈s,x<256
 | .eW m f seen st=>pl.b5=0/\w.heap[pl.bc]? =some (.mapIter (m.map λb=>(A b).bc) f seen.toArray st)/\∀b,m=some b->F b
 | .jB m f n bO st p=>pl.b5=0/\F m/\∃seen:List Nat,w.heap[pl.bc]? =some (.mapIter (some (A m).bc) f seen.toArray st)/\(bO.filter λb=> !seen.contains b).length<=n/\∀b,p=some b->p4 seen=some b
 | .loop state pending fn n ac B params assign body aA=>∃tmps,w.heap[pl.bc]? =some (.loop ⟨state,pending,fn,tmps,params.toArray,assign,body,(A aA).bc⟩)/\es A F n ac B tmps/\F aA/\
    fC C ac assign=true/\fC C ac body=true/\(∀c,pending=some c->oM c)/\sS C fn ac
 | .deferred g=>w.heap[pl.bc]? =some (.deferred (g.map λk=>k.map (fz A)))/\∀k,g=some k->∀d∈k,ka F d
def s0(D o':ae)(b d:Nat):Prop:=
 (∃c n a aj,D= .cells c n .eC/\o'= .cells a aj .eC)\/
 (∃c n k a aj,D= .cells c n (.grow k)/\o'= .cells a aj .eC/\d∈k/\aj<=n)\/
 (∃c n k a aj,o'= .cells a aj (.grow k)/\D= .cells c n .eC/\b∈k/\n<=aj)
def jg(C:aC)(F:Nat->Prop)(D:ae):Prop:=(∀c n k,D= .cells c n (.grow k)->∀x∈k,F x/\C.aP<=x)/\∀c n st,D= .cells c n st->∀i v,c.get i=some v->i<n
structure bD(C:aC)(A:bE)(F:Nat->Prop)(h:I ae)(j aB:Nat)(w:World):Prop where
 aP:C.aP<=j
 lt:∀b,F b->b<j
 jF:∀b D,J C h b=some D->b<j
 obj:∀b D,J C h b=some D->F b->eF C A F D (A b) w
 sep:∀b a D o',J C h b=some D->J C h a=some o'->F b->F a->b≠a->C.aP<=b->(A b).bc=(A a).bc->s0 D o' b a/\(A b).b5=(A a).b5
 base:∀b D,C.aP<=b->J C h b=some D->F b->aB<=(A b).bc
 cj:∀b D,J C h b=some D->F b->jg C F D
def ei(A:bE)(F:Nat->Prop)(af:Operand->Value)(a:Operand->Option y)(k:List Operand):Prop:=
 ∀x∈k,∀v,a x=some v->af x=ai A v/\bd F v
section
variable{C:aC}{A:bE}{F:Nat->Prop}{h:I ae}{j aB:Nat}{w:World}
def tc(s:ByteArray):cI (s.data.toList.map (·.toNat))=s:=by
 unfold cI
 rw[YH]
 have:(UInt8.ofNat∘λx:UInt8=>x.toNat)=id:=by funext x;simp
 rw[this]
 simp
def H5{α g:Type}(f:α->Option g):∀(k:List α) (r:List g),mA f k=some r->r.length=k.length/\∀(i:Nat) (a:α),k[i]? =some a->∃b,r[i]? =some b/\f a=some b:=by
 intro k
 induction k with
 |nil=>intro r e;simp[mA]at e;subst e;simp
 |cons a k V=>
  intro r e
  simp only[mA]at e
  cases d:f a with
  |none=>simp[d]at e
  |some b=>
   simp only[d]at e
   cases M:mA f k with
   |none=>simp[M]at e
   |some t=>
    simp only[M,Zu]at e
    subst e
    obtain⟨m,n⟩:=V _ M
    refine⟨by simp[m],λi x c=> ?_⟩
    cases i with
    |zero=>simp at c;subst c;exact⟨b,Zs,d⟩
    |succ i=>simp at c;obtain⟨s,p,jr⟩:=n i x c;exact⟨s,by simpa using p,jr⟩
def IA(A:bE)(F:Nat->Prop):∀(n:Nat) (v:Value) (a:y),mF n v=some a->v=ai A a/\bd F a:=by
 intro n
 induction n with
 |zero=>intro v a e;simp[mF]at e
 |succ n V=>
  have rV:∀(k:List Value) (r:List y),mA (mF n) k=some r->k=aU A r/\cd F r:=by
   intro k r e
   obtain⟨C,f⟩:=H5 _ k r e
   constructor
   ·rw[hk]
    apply Y9
    intro i
    rw[Zw]
    cases c:k[i]? with
    |none=>
     have:k.length<=i:=by simpa using c
     rw[Z3 Zo];rfl
    |some x=>
     obtain⟨b,ab,d⟩:=f i x c
     rw[ab,(V _ _ d).1];rfl
   ·rw[iU]
    intro v s
    obtain⟨i,ak⟩:=ZZ.1 s
    have p:i<k.length:=by
     have:=(Zf.1 ak).1;omega
    obtain⟨b,ab,d⟩:=f i k[i] (Ze p)
    rw[ak]at ab;simp at ab;subst ab
    exact(V _ _ d).2
  intro v a e
  unfold mF at e
  split at e<;>(try(simp at e;subst e;simp[ai,bd,ga,aU,rF,cd];done))
  ·simp at e;subst e
   refine⟨by simp only[ai];rw[tc], ?_⟩
   simp only[bd]
   intro x c
   obtain⟨w,_,rfl⟩:=ZB.1 c
   exact w.toNat_lt
  ·rename_i t v
   split at e
   ·rename_i z m
    simp at e;subst e
    obtain⟨l,g⟩:=V _ _ m
    exact⟨by simp only[ai,l],g⟩
   ·simp at e
  ·rename_i cs
   split at e
   ·rename_i k au
    simp at e;subst e
    obtain⟨l,g⟩:=rV _ _ au
    exact⟨by simp only[ai];rw[<-l],g⟩
   ·simp at e
  ·rename_i cs
   split at e
   ·rename_i k au
    simp at e;subst e
    obtain⟨l,g⟩:=rV _ _ au
    exact⟨by simp only[ai];rw[<-l],g⟩
   ·simp at e
  ·simp at e
def r6{v:Value}{a:y}(e:nJ v=some a):v=ai A a/\bd F a:=IA A F _ _ _ e
def h6(b D i:Nat):(⟨b,D,none⟩:Addr).add i=⟨b,D+i,none⟩:=by unfold Addr.add;split<;>simp_all
def EG(M:bD C A F h j aB w){b:Nat}(ab:F b){c:I y}(e:cellsOf C h b=some c):
 ∃a7 ty aF ak,w.heap[(A b).bc]? =some (.cells a7 ty (aF,ak))/\∀i v,c.get i=some v->a7[(A b).b5+i]? =some (ai A v)/\bd F v:=by
 unfold cellsOf at e
 split at e
 ·rename_i g n st f
  simp at e;subst e
  obtain⟨a7,ty,aF,ak,a,_,_,d⟩:=M.obj b _ f ab
  exact⟨a7,ty,aF,ak,a,d⟩
 ·simp at e
def xe(M:bD C A F h j aB w){b:Nat}(ab:F b){c:I y}(e:cellsOf C h b=some c){D:Nat}{v:y}(i:c.get D=some v):
 w.cell? ⟨(A b).bc,(A b).b5+D,none⟩=some (ai A v)/\bd F v:=by
 obtain⟨a7,ty,aF,ak,a,d⟩:=EG M ab e
 obtain⟨f,g⟩:=d D v i
 exact⟨by simp[World.cell?,a,f],g⟩
def q5(M:bD C A F h j aB w){b:Nat}(ab:F b){c:I y}(e:cellsOf C h b=some c){D n:Nat}{k:List y}(p:c.eM D n=some k):
 (loadCells ⟨(A b).bc,(A b).b5+D,none⟩ n).run C.P w= .ok (aU A k).toArray w/\cd F k:=by
 obtain⟨g,m⟩:=I.rC _ _ _ _ p
 have key:∀i v,k[i]? =some v->w.cell? ⟨(A b).bc,(A b).b5+D+i,none⟩=some (ai A v)/\bd F v:=by
  intro i v ak
  have s:i<n:=zu (Zf.1 ak).1
  have:=xe M ab e (D:=D+i) (v:=v) (by rw[m i s,ak])
  rwa[<-Z1]at this
 constructor
 ·have au:=run_loadCells_list (P:=C.P) w ⟨(A b).bc,(A b).b5+D,none⟩ (aU A k) (λH v d=>by
   rw[h6]
   rw[hk,Zw]at d
   cases f:k[H]? with
   |none=>simp[f]at d
   |some a=>simp[f]at d;subst d;exact(key H a f).1)
  have r:(aU A k).length=n:=by rw[hk,Zn,g]
  rw[r]at au
  exact au
 ·rw[iU]
  intro v d
  obtain⟨i,ak⟩:=ZZ.1 d
  exact(key i v ak).2
def K0{t n:Nat}(e:ea C t=some n):∃i,C.P.info? t=some i/\i.size=n:=by
 unfold ea at e
 cases ak:C.P.info? t with
 |none=>simp[ak]at e
 |some i=>simp[ak]at e;exact⟨i,rfl,e⟩
def gb{t n:Nat}(e:ea C t=some n)(w:World):(sizeOf t).run C.P w= .ok n w:=by
 obtain⟨i,ak,rfl⟩:=K0 e
 simp[sizeOf,typeInfo,ak]
def lz{t:Nat}{z:y}(e:h1 C t=some z)(A:bE)(F:Nat->Prop)(w:World):(zeroValue t).run C.P w= .ok (ai A z) w/\bd F z:=by
 unfold h1 at e
 cases ak:C.P.info? t with
 |none=>simp[ak]at e
 |some i=>
  simp only[ak]at e
  cases a:i.zero with
  |none=>simp[a]at e
  |some v=>
   simp only[a]at e
   obtain⟨l,g⟩:=r6 (A:=A) (F:=F) e
   exact⟨by simp[zeroValue,typeInfo,ak,a,l],g⟩
def ss{t:Nat}{b:Bool}(e:nw C t=some b)(w:World):(isAgg t).run C.P w= .ok b w:=by
 unfold nw at e
 cases a:C.P.underlying t with
 |none=>simp[a]at e
 |some d=>
  simp only[a]at e
  cases d<;>simp at e<;>subst e<;>simp[isAgg,run_underlying a]
end
section
variable{C:aC}{A:bE}{F:Nat->Prop}{h:I ae}{j aB:Nat}{w:World}
def gm{wr:List (Nat×Nat)}{x:Operand}{d:eT}(e:f7 wr x=some d)(aa:List (Nat×y))(B:I y):fd d aa B=ek wr aa B x:=by
 cases x with
 |tmp t=>
  simp only[f7]at e
  cases b:cf wr t with
  |none=>simp[b]at e;subst e;simp[fd,ek,b]
  |some H=>simp[b]at e;subst e;simp[fd,ek,b]
 |const v=>
  simp only[f7]at e
  cases c:nJ v with
  |none=>simp[c]at e
  |some a=>simp[c]at e;subst e;simp[fd,ek,c]
 |global g=>simp[f7]at e;subst e;rfl
 |func f=>simp[f7]at e;subst e;rfl
def FK{wr:List (Nat×Nat)}(aa:List (Nat×y))(B:I y):∀{k:List Operand}{cs:List eT}{aE:List y},o9 wr k=some cs->me aa B cs=some aE->
 aE.length=k.length/\∀(i:Nat) x,k[i]? =some x->∃v,aE[i]? =some v/\ek wr aa B x=some v:=by
 intro k
 induction k with
 |nil=>intro cs aE c d;simp[o9]at c;subst c;simp[me]at d;subst d;simp
 |cons x k V=>
  intro cs aE c d
  simp only[o9]at c
  cases g:f7 wr x with
  |none=>simp[g]at c
  |some p=>
   cases au:o9 wr k with
   |none=>simp[g,au]at c
   |some n=>
    simp[g,au]at c;subst c
    simp only[me]at d
    cases f:fd p aa B with
    |none=>simp[f]at d
    |some v=>
     cases M:me aa B n with
     |none=>simp[f,M]at d
     |some r=>
      simp[f,M]at d;subst d
      obtain⟨a,b⟩:=V au M
      refine⟨by simp[a],λi s m=> ?_⟩
      cases i with
      |zero=>simp at m;subst m;exact⟨v,Zs,by rw[<-gm g];exact f⟩
      |succ i=>simp at m;simpa using b i s m
def FI{af:Operand->Option y}:∀{k:List Operand}{aE:List y},hm af k=some aE->
 aE.length=k.length/\∀(i:Nat) x,k[i]? =some x->∃v,aE[i]? =some v/\af x=some v:=by
 intro k
 induction k with
 |nil=>intro aE e;simp[hm]at e;subst e;simp
 |cons x k V=>
  intro aE e
  simp only[hm]at e
  cases c:af x with
  |none=>simp[c]at e
  |some v=>
   cases au:hm af k with
   |none=>simp[c,au]at e
   |some r=>
    simp[c,au]at e;subst e
    obtain⟨a,b⟩:=V au
    refine⟨by simp[a],λi f d=> ?_⟩
    cases i with
    |zero=>simp at d;subst d;exact⟨v,Zs,c⟩
    |succ i=>simp at d;simpa using b i f d
def yI{af:Operand->Value}{n:Operand->Option y}{k:List Operand}{aE:List y}(m:ei A F af n k)(p:aE.length=k.length)
 (f:∀(i:Nat) x,k[i]? =some x->∃v,aE[i]? =some v/\n x=some v):k.map af=aU A aE/\cd F aE:=by
 constructor
 ·rw[hk]
  apply Y9
  intro i
  rw[Zw,Zw]
  cases d:k[i]? with
  |none=>
   have:k.length<=i:=by simpa using d
   rw[Z3 Zo];rfl
  |some x=>
   obtain⟨v,c,a⟩:=f i x d
   rw[c]
   simp[(m x (Zg d) v a).1]
 ·rw[iU]
  intro v c
  obtain⟨i,ak⟩:=ZZ.1 c
  have g:i<k.length:=zu (Zf.1 ak).1
  obtain⟨N,b,a⟩:=f i k[i] (Ze g)
  rw[ak]at b;simp at b;subst b
  exact(m _ (List.getElem_mem g) v a).2
def iw{af:Operand->Value}{b:Operand->Option y}{a:Array Operand}{aE:List y}(i:ei A F af b a.toList)(e:hm b a.toList=some aE):
 a.map af=(aU A aE).toArray/\cd F aE:=by
 obtain⟨c,d⟩:=FI e
 obtain⟨f,g⟩:=yI i c d
 refine⟨?_,g⟩
 apply YC
 simp[f]
def Bc(o:IntKind)(n:Int):h0 o n=o.wrap n:=by
 cases o<;>simp only[h0]<;>try rfl
 simp only[cN,IntKind.wrap,IntKind.bits,IntKind.signed,Zc,Bool.true_and,ge_iff_le]
 have a:((2:Int)^64)=18446744073709551616:=by decide
 have b:((2:Int)^(64-1))=9223372036854775808:=by decide
 rw[a,b]
 by_cases e:n%18446744073709551616<9223372036854775808
 ·rw[Zv e,Zj (by simpa using e)]
 ·rw[Zj e,Zv (by simpa using e)]
@[simp] def LO(o:IntKind)(n:Int):fq o n=some (.int o (o.wrap n)):=by simp[fq,Bc]
@[simp] def yd(o:IntKind)(n:Int):g5 o n=some (.int o n):=by simp[g5]
@[simp] def jZ(b:Bool):gY b=some (.bool b):=by cases b<;>rfl
@[simp] def ov{α:Type _}(c:Bool)(a:Option α)(v:α):aT c none a=some v↔c=false/\a=some v:=by cases c<;>simp
@[simp] def mq(x a:Int):js x a=decide (x=a):=by
  rw[Z8,Zc]
  cases x<;>cases a
  ·exact⟨λe=>by rw[Zh e],λe=>by cases e;exact Y2 _⟩
  ·exact⟨(λe=>by cases e),(λe=>by cases e)⟩
  ·exact⟨(λe=>by cases e),(λe=>by cases e)⟩
  ·exact⟨λe=>by rw[Zh e],λe=>by cases e;exact Y2 _⟩
@[simp] def jt(x c:Int):kh x c=decide (x<c):=by
  rw[Z8,Zc]
  cases x with
  |ofNat a=>cases c with
   |ofNat b=>show Nat.blt a b=true↔(a:Int)<(b:Int);simp[Nat.blt];omega
   |negSucc b=>show false=true↔(a:Int)<Int.negSucc b;simp;omega
  |negSucc a=>cases c with
   |ofNat b=>show true=true↔Int.negSucc a<(b:Int);simp;omega
   |negSucc b=>show Nat.blt b a=true↔Int.negSucc a<Int.negSucc b;simp[Nat.blt];omega
@[simp] def yj(o ct:IntKind):f2 o ct=decide (o=ct):=by cases o<;>cases ct<;>rfl
@[simp] def Et(a b:Bool):q1 a b=(a==b):=by cases a<;>cases b<;>rfl
def DT{op:BinOp}{o:IntKind}{x a:Int}{v:y}(t:TypeId)(e:fJ op o x a=some v)(c:fM op=false):
 (binOp op t (.int o x) (.int o a)).run C.P w= .ok (ai A v) w/\bd F v:=by
 cases op<;>simp[fJ,fM,binOp,Op.intArith,Op.intDiv,Op.intBits,Op.intCmp]at e c ⊢ <;>
  first
  |(subst e;simp[ai,bd];done)
  |(obtain⟨b,e⟩:=e;subst e;simp[ai,bd,b];done)
  |(subst e;exact⟨rfl,trivial⟩)
  |(subst e;refine⟨?_,trivial⟩;simp only[ai];congr 1;rw[Z8];simp;done)
def D0{op:BinOp}{o ct:IntKind}{x a:Int}{v:y}(t:TypeId)(e:pi op o x a=some v):
 (binOp op t (.int o x) (.int ct a)).run C.P w= .ok (ai A v) w/\bd F v:=by
 unfold pi at e
 simp only[jt,ov,Zb]at e
 obtain⟨b,e⟩:=e
 cases op<;>simp[binOp,Op.shift,b]at e ⊢
 all_goals(subst e;simp[ai,bd])
def wS{op:BinOp}{x g v:y}(t:TypeId)(e:ah op x g=some v):
 (binOp op t (ai A x) (ai A g)).run C.P w= .ok (ai A v) w/\bd F v/\∃o a ct b,x= .int o a/\g= .int ct b:=by
 unfold ah at e
 split at e
 ·rename_i o a ct b
  simp only[ai]
  by_cases c:fM op=true
  ·simp only[c,cS]at e
   obtain⟨d,f⟩:=D0 (C:=C) (A:=A) (F:=F) (w:=w) (ct:=ct) t e
   exact⟨d,f,_,_,_,_,rfl,rfl⟩
  ·have c:fM op=false:=by simpa using c
   simp only[c,fB,yj,cg,Zc]at e
   obtain⟨rfl,e⟩:=e
   obtain⟨d,f⟩:=DT (C:=C) (A:=A) (F:=F) (w:=w) t e c
   exact⟨d,f,_,_,_,_,rfl,rfl⟩
 ·simp at e
def qF(A:bE)(F:Nat->Prop)(P:Program)(w:World)(s:Sem Next)(v:y):Prop:=s.run P w= .ok (.value (ai A v)) w/\bd F v
def gj{P:Program}{s:Sem Value}{v:y}(e:s.run P w= .ok (ai A v) w/\bd F v):qF A F P w (do pure (.value (<-s))) v:=by
 refine⟨?_,e.2⟩
 simp[e.1]
def wT(M:bD C A F h j aB w){t:TypeId}(m:nw C t=some false){a v:y}(g:bd F a)(e:W C h a=some v):
 (Instr.loadAt t (ai A a)).run C.P w= .ok (ai A v) w/\bd F v:=by
 unfold W at e
 split at e
 ·rename_i b D
  split at e
  ·rename_i c i
   obtain⟨d,f⟩:=xe M g i e
   refine⟨?_,f⟩
   simp[Instr.loadAt,Instr.sureAddr,ai,loadVar,ss m,d]
  ·simp at e
 ·simp at e
def wU(M:bD C A F h j aB w){t:TypeId}{n:Nat}(p:nw C t=some true)(m:ea C t=some n){a v:y}(g:bd F a)(e:br C h n a=some v):
 (Instr.loadAt t (ai A a)).run C.P w= .ok (ai A v) w/\bd F v:=by
 unfold br at e
 split at e
 ·rename_i b D
  split at e
  ·rename_i c i
   split at e
   ·rename_i k au
    simp at e;subst e
    obtain⟨d,f⟩:=q5 M g i au
    refine⟨?_,f⟩
    simp[Instr.loadAt,Instr.sureAddr,ai,loadVar,ss p,gb m,d]
   ·simp at e
  ·simp at e
 ·simp at e
def wV(M:bD C A F h j aB w){t:TypeId}{a v:y}(c:bd F a)(e:iO C h t a=some v):
 (Instr.loadAt t (ai A a)).run C.P w= .ok (ai A v) w/\bd F v:=by
 unfold iO at e
 split at e
 ·rename_i s b d;exact wU M b d c e
 ·rename_i b;exact wT M b c e
 ·simp at e
def e0{a b:Nat}(e:Nat.blt a b=true):a<b:=by simp[Nat.blt]at e;omega
def et{a b:Nat}(e:Nat.ble a b=true):a<=b:=by simpa using e
def nG{v:y}{n:Nat}(e:f3 v=some n):∃o,v= .int o (Int.ofNat n):=by
 unfold f3 at e
 split at e
 ·rename_i o z
  split at e
  ·simp at e;subst e;exact⟨o,rfl⟩
  ·simp at e
 ·simp at e
def FQ{s:TypeId}{d:Array Field}{f z:Nat}{c:Field}(n:C.P.underlying s=some (.struct d))(i:d.toList[f]? =some c)
 (p:ea C c.type=some z)(r:z≠0){a v:y}(g:bd F a)(e:aq c.offset a=some v):
 (Instr.fieldAt s (ai A a) f).run C.P w= .ok (ai A v) w/\bd F v:=by
 unfold aq at e
 split at e
 ·rename_i b D
  simp at e;subst e
  have m:d[f]? =some c:=by rw[<-i];simp
  refine⟨?_,g⟩
  simp[Instr.fieldAt,run_underlying n,m,Instr.sureAddr,ai,fieldPlace,gb p,r,h6,Z1]
 ·simp at e
def GX{t:TypeId}{n ap i:Nat}{bZ:TypeId}(g:C.P.underlying t=some (.array n bZ))(m:ea C bZ=some ap)
 {a v:y}{o:IntKind}(d:bd F a)(e:sJ n ap a i=some v):
 (Instr.indexAt t (ai A a) (.int o (Int.ofNat i))).run C.P w= .ok (ai A v) w/\bd F v:=by
 unfold sJ at e
 split at e
 ·rename_i b D
  simp only[cg,Zu]at e
  obtain⟨c,rfl⟩:=e
  have f:i<n:=e0 c
  refine⟨?_,d⟩
  simp[Instr.indexAt,asIntOf,run_underlying g,Instr.sureAddr,ai,gb m,f,h6,Z1]
 ·simp at e
def GZ{t:TypeId}{ap i:Nat}{bZ:TypeId}(g:C.P.underlying t=some (.slice bZ))(m:ea C bZ=some ap)
 {a v:y}{o:IntKind}(f:bd F a)(e:mT ap a i=some v):
 (Instr.indexAt t (ai A a) (.int o (Int.ofNat i))).run C.P w= .ok (ai A v) w/\bd F v:=by
 unfold mT at e
 split at e
 ·rename_i b D n _
  simp only[cg,Zu]at e
  obtain⟨c,rfl⟩:=e
  have d:i<n:=e0 c
  refine⟨?_,f⟩
  simp[Instr.indexAt,asIntOf,run_underlying g,ai,gb m,d,h6,Z1]
 ·rename_i b D n _
  simp only[cg,Zu]at e
  obtain⟨c,rfl⟩:=e
  have d:i<n:=e0 c
  refine⟨?_,f⟩
  simp[Instr.indexAt,asIntOf,run_underlying g,ai,gb m,d,h6,Z1]
 ·simp at e
def LJ{a v:y}(d:bd F a)(e:a2 a=some v):v=a/\(∀oper:Oper,∀af:Operand->Value,∀x,oper.op= .nilCheck x->af x=ai A a->(execOp af oper).run C.P w= .ok (.value (ai A v)) w):=by
 unfold a2 at e
 split at e
 ·simp at e;subst e
  refine⟨rfl,λoper af x b c=> ?_⟩
  simp[execOp,b,c,ai]
 ·split at e
  ·simp at e;subst e
   refine⟨rfl,λoper af x b c=> ?_⟩
   simp[execOp,b,c,ai,ga]
  ·simp at e;subst e
   refine⟨rfl,λoper af x b c=> ?_⟩
   simp[execOp,b,c,ai,ga]
  ·simp at e
 ·simp at e;subst e
  refine⟨rfl,λoper af x b c=> ?_⟩
  simp[execOp,b,c,ai]
 ·simp at e
def LI{i:Nat}{a v:y}(b:bd F a)(e:dD i a=some v):(Instr.extract (ai A a) i).run C.P w= .ok (ai A v) w/\bd F v:=by
 unfold dD at e
 split at e
 ·rename_i aE
  rw[ih]at e
  refine⟨?_,(iU F aE).1 b v (Zg e)⟩
  simp[Instr.extract,ai,hk,e]
 ·simp at e
def xH{af:Operand->Value}{m:Operand->Option y}:∀{k:List (Nat×Operand)}{bH:List (Nat×y)},ei A F af m (k.map (·.2))->kX m k=some bH->
 k.map (λx=>(x.1,af x.2))=bH.map (λx=>(x.1,ai A x.2))/\∀x∈bH,bd F x.2:=by
 intro k
 induction k with
 |nil=>intro bH _ e;simp[kX]at e;subst e;simp
 |cons a k V=>
  intro bH p e
  obtain⟨i,x⟩:=a
  simp only[kX]at e
  cases g:m x with
  |none=>simp[g]at e
  |some v=>
   cases au:kX m k with
   |none=>simp[g,au]at e
   |some r=>
    simp[g,au]at e;subst e
    obtain⟨a,b⟩:=V (λn f=>p n (by simp at f ⊢;exact .inr f)) au
    obtain⟨c,d⟩:=p x Zs v g
    refine⟨by simp[a,c],λn f=> ?_⟩
    cases f with
    |head=>exact d
    |tail _ f=>exact b n f
def jj(A:bE)(v:y):(ai A v).cells=(aU A v.cells).toArray:=by
 cases v<;>simp[ai,Value.cells,y.cells,aU]
def iR{v:y}(e:bd F v):cd F v.cells:=by
 cases v with
 |agg cs=>exact e
 |_=>exact⟨e,trivial⟩
def F7(A:bE):∀(aE:List y) (cs:List y) (off o:Nat),
 ((aU A aE).zipIdx o).foldl (λ(cs:Array Value) (x:Value×Nat)=>cs.setIfInBounds (off+x.2) x.1) (aU A cs).toArray=(aU A (e5 cs (off+o) aE)).toArray:=by
 intro aE
 induction aE with
 |nil=>intro cs off o;rfl
 |cons v aE V=>
  intro cs off o
  simp only[aU,List.zipIdx_cons,ZU,e5]
  have:(aU A cs).toArray.setIfInBounds (off+o) (ai A v)=(aU A (cs.set (off+o) v)).toArray:=by
   apply YC
   simp[hk,List.map_set]
  rw[this,V]
  rfl
def Gu{cs:List y}{i:Nat}{v:y}(e:cd F cs)(b:bd F v):cd F (cs.set i v):=by
 rw[iU]at e ⊢
 intro x c
 rcases YP c with a|a
 ·exact e x a
 ·rw[a];exact b
def Gv:∀(aE cs:List y) (D:Nat),cd F cs->cd F aE->cd F (e5 cs D aE):=by
 intro aE
 induction aE with
 |nil=>intro cs D e _;exact e
 |cons v aE V=>intro cs D e a;exact V _ _ (Gu e a.1) a.2
def tI{g qo:Nat->Option (Nat×Nat)}(z:∀i x,g i=some x->qo i=some x):∀(bH:List (Nat×y)) (cs r:List y),cd F cs->(∀x∈bH,bd F x.2)->
 mg g cs bH=some r->Instr.fill qo (aU A cs).toArray (bH.map λx=>(x.1,ai A x.2))=some (aU A r).toArray/\cd F r:=by
 intro bH
 induction bH with
 |nil=>intro cs r e _ c;simp[mg]at c;subst c;exact⟨rfl,e⟩
 |cons p bH V=>
  intro cs r e n c
  obtain⟨i,v⟩:=p
  simp only[mg]at c
  cases f:g i with
  |none=>simp[f]at c
  |some x=>
   obtain⟨off,size⟩:=x
   simp only[f,cg,Zq]at c
   obtain⟨⟨d,m⟩,c⟩:=c
   have d:v.cells.length=size:=Zh d
   have m:off+size<=cs.length:=et m
   have s:bd F v:=n (i,v) Zs
   obtain⟨a,b⟩:=V (e5 cs off v.cells) r (Gv _ _ _ e (iR s)) (λx C=>n x (by simp[C])) c
   refine⟨?_,b⟩
   simp only[ZS,Instr.fill,z _ _ f,jj]
   have t:(aU A v.cells).length=size:=by rw[hk,Zn,d]
   have w:(aU A cs).length=cs.length:=by rw[hk,Zn]
   rw[Zj]
   ·rw[<-a]
    congr 1
    have:=F7 A v.cells cs off 0
    simp
    simpa using this
   ·simp[t,w];omega
def J4{α c:Type}(P:Program)(w:World)(f:α->Sem c)(g:α->c):∀(k:List α),(∀a∈k,(f a).run P w= .ok (g a) w)->(k.mapM f).run P w= .ok (k.map g) w:=by
 intro k
 induction k with
 |nil=>intro _;simp
 |cons a k V=>intro e;simp[zb,e a Zs,V (λb ab=>e b (by simp[ab]))]
def KY{a:List Field}{i:Nat}{x:Nat×Nat}(e:vd C a i=some x):∃f s,a[i]? =some f/\ea C f.type=some s/\x=(f.offset,s):=by
 unfold vd at e
 rw[ih]at e
 split at e
 ·rename_i f b
  split at e
  ·rename_i s c
   simp at e
   exact⟨f,s,b,c,e.symm⟩
  ·simp at e
 ·simp at e
def ph{t:TypeId}{cs:List y}{off:Nat}{v:y}(b:cd F cs)(e:m7 C t cs off=some v):
 (part t (aU A cs).toArray off).run C.P w= .ok (ai A v) w/\bd F v:=by
 unfold m7 at e
 split at e
 ·rename_i s a c
  simp at e;subst e
  constructor
  ·simp only[part,Sem.run_bind,ss a,Result.andThen_ok,ZP,gb c,Sem.run_pure,ai,hk]
   congr 2
   apply YC
   simp[List.map_take,List.map_drop,List.take_drop]
  ·simp only[bd]
   rw[iU]at b ⊢
   exact λx d=>b x (List.mem_of_mem_drop (YS d))
 ·rename_i a
  rw[ih]at e
  constructor
  ·simp[part,ss a,hk,e]
  ·exact(iU F cs).1 b v (Zg e)
 ·simp at e
def DS{t:TypeId}{x i v:y}(f:bd F x)(e:qR C t x i=some v):(Instr.index t (ai A x) (ai A i)).run C.P w= .ok (ai A v) w/\bd F v:=by
 unfold qR at e
 split at e
 ·simp at e
 ·rename_i n G
  obtain⟨o,rfl⟩:=nG G
  split at e
  ·rename_i m bZ cs b
   split at e
   ·rename_i ap O
    simp only[cg]at e
    obtain⟨g,p⟩:=e
    have a:=e0 g
    obtain⟨r,z⟩:=ph (A:=A) (w:=w) f p
    refine⟨?_,z⟩
    simp[Instr.index,asIntOf,ai,run_underlying b,a,gb O,r]
   ·simp at e
  ·rename_i s b
   rw[ih]at e
   split at e
   ·rename_i c d
    simp at e;subst e
    refine⟨?_,trivial⟩
    have ab:(cI s)[n]? =some (UInt8.ofNat c):=by
     show(cI s).data[n]? =_
     simp[cI,d]
    have a:c<256:=f c (Zg d)
    simp[Instr.index,asIntOf,ai,run_underlying b,ab,YM a]
   ·simp at e
  ·simp at e
def D4{op:UnOp}{x v:y}(e:c0 op x=some v):(Op.unary op (ai A x)).run C.P w= .ok (ai A v) w/\bd F v:=by
 unfold c0 at e
 split at e
 ·rename_i o n
  simp[fJ]at e;subst e
  exact⟨by simp[Op.unary,Op.intArith,ai],trivial⟩
 ·rename_i o n
  simp[fJ]at e;subst e
  exact⟨rfl,trivial⟩
 ·simp at e;subst e;exact⟨rfl,trivial⟩
 ·simp at e
def IF:∀{k:List Field},r7 C k=true->∀f∈k,∃s,ea C f.type=some s:=by
 intro k
 induction k with
 |nil=>intro _ f b;simp at b
 |cons a k V=>
  intro e f b
  simp only[r7,Zq]at e
  cases b with
  |head=>cases c:ea C a.type with
   |none=>simp[c]at e
   |some s=>exact⟨s,rfl⟩
  |tail _ b=>exact V e.2 f b
def DM{t:TypeId}{bH:List (Nat×y)}{v:y}(r:∀x∈bH,bd F x.2)(e:qL C t bH=some v):
 (Instr.build t ((bH.map λx=>(x.1,ai A x.2)).toArray)).run C.P w= .ok (ai A v) w/\bd F v:=by
 unfold qL at e
 split at e
 ·simp at e
 ·rename_i z T1
  obtain⟨G,O⟩:=lz T1 A F w
  split at e
  ·rename_i d m
   simp only[cg]at e
   obtain⟨Z,e⟩:=e
   split at e
   ·rename_i cs g
    simp at e;subst e
    have Y:(d.mapM λf=>do pure (f.offset, <-sizeOf f.type):Sem (Array (Nat×Nat))).run C.P w= .ok (d.toList.map λf=>(f.offset,(ea C f.type).getD 0)).toArray w:=by
     rw[Array.mapM_eq_mapM_toList,Sem.run_map,J4 C.P w _ (λf:Field=>(f.offset,(ea C f.type).getD 0)) _ (λf X=>by
      obtain⟨s,c⟩:=IF Z f X
      simp[gb c,c])]
     rfl
    obtain⟨a,b⟩:=tI (A:=A) (qo:=λi=>((d.toList.map λf=>(f.offset,(ea C f.type).getD 0)).toArray)[i]?) (λi x T0=>by
     obtain⟨f,s,p,P,rfl⟩:=KY T0
     simp at p
     simp[p,P]) bH z.cells cs (iR O) r g
    refine⟨?_,b⟩
    simp only[Instr.build,Sem.run_bind,G,Result.andThen_ok,run_underlying m,Y,jj,a,ai,Sem.run_pure]
   ·simp at e
  ·rename_i n bZ m
   split at e
   ·rename_i s c
    split at e
    ·rename_i cs g
     simp at e;subst e
     obtain⟨a,b⟩:=tI (A:=A) (qo:=λi=>some (i*s,s)) (λ_ _ e=>e) bH z.cells cs (iR O) r g
     refine⟨?_,b⟩
     simp[Instr.build,G,run_underlying m,gb c,jj,a,ai]
    ·simp at e
   ·simp at e
  ·simp at e
end
end Go.S

