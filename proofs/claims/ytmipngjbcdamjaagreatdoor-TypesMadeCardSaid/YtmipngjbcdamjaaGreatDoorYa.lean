/- Part of the proof of the last text; no conditions -/
import GoSem.Step
import Derived.Below
import Derived.ChangeKeysEq
import Derived.Laws.IdiomCopy
import Derived.Laws.Unary
import Derived.Laws.Wrap64
import Derived.KernelRfl
set_option maxHeartbeats 8000000
set_option linter.all false
namespace Go
def Zo{p:Prop}(h:p:=by omega):p:=h
def Za{p q:Prop}(a:p)(b:q):p/\q:=⟨a,b⟩
def Zd{p:Prop}(h:p:=by decide):p:=h
def Zs{p:Prop}(h:p:=by simp):p:=h
def Zx{p:Prop}(h:p:=by simp;omega):p:=h
def Zk{p:Prop}(h:p:=by kernel_rfl):p:=h
def Zb:type_of%@decide_eq_false_iff_not:=@decide_eq_false_iff_not
def Zc:type_of%@decide_eq_true_eq:=@decide_eq_true_eq
def Ze:type_of%@List.getElem?_eq_getElem:=@List.getElem?_eq_getElem
def Zf:type_of%@List.getElem?_eq_some_iff:=@List.getElem?_eq_some_iff
def Zg:type_of%@List.mem_of_getElem?:=@List.mem_of_getElem?
def Zh:type_of%@Nat.eq_of_beq_eq_true:=@Nat.eq_of_beq_eq_true
def Zi:type_of%@List.mem_cons_of_mem:=@List.mem_cons_of_mem
def Zj:type_of%@if_neg:=@if_neg
def Zl:type_of%@List.mem_cons_self:=@List.mem_cons_self
def Zn:type_of%@List.length_map:=@List.length_map
def Zp:type_of%@Nat.le_refl:=@Nat.le_refl
def Zq:type_of%@Bool.and_eq_true:=@Bool.and_eq_true
def Zr:type_of%@List.mem_append:=@List.mem_append
def Zt:type_of%@List.take_of_length_le:=@List.take_of_length_le
def Zu:type_of%@Option.some.injEq:=@Option.some.injEq
def Zv:type_of%@if_pos:=@if_pos
def Zw:type_of%@List.getElem?_map:=@List.getElem?_map
def Zy:type_of%@List.getElem?_append_right:=@List.getElem?_append_right
def Zz:type_of%@List.mem_cons:=@List.mem_cons
def ZA:type_of%@List.getElem?_append_left:=@List.getElem?_append_left
def ZB:type_of%@List.mem_map:=@List.mem_map
def ZC:type_of%@List.length_cons:=@List.length_cons
def ZD:type_of%@Nat.le_trans:=@Nat.le_trans
def ZE:type_of%@Nat.zero_add:=@Nat.zero_add
def ZF:type_of%@List.mem_singleton:=@List.mem_singleton
def ZG:type_of%@List.take_add_one:=@List.take_add_one
def ZH:type_of%@Nat.add_zero:=@Nat.add_zero
def ZI:type_of%@Array.getElem?_eq_some_iff:=@Array.getElem?_eq_some_iff
def ZJ:type_of%@Option.map_some:=@Option.map_some
def ZK:type_of%@Array.getElem?_toList:=@Array.getElem?_toList
def ZL:type_of%@Option.bind_some:=@Option.bind_some
def ZM:type_of%@if_false:=@if_false
def ZN:type_of%@List.getElem?_cons_succ:=@List.getElem?_cons_succ
def ZO:type_of%@List.take_succ_cons:=@List.take_succ_cons
def ZP:type_of%@if_true:=@if_true
def ZQ:type_of%@List.mem_append_right:=@List.mem_append_right
def ZR:type_of%@Bool.false_eq_true:=@Bool.false_eq_true
def ZS:type_of%@List.map_cons:=@List.map_cons
def ZT:type_of%@List.length_append:=@List.length_append
def ZU:type_of%@List.foldl_cons:=@List.foldl_cons
def ZV:type_of%@Nat.mul_one:=@Nat.mul_one
def ZW:type_of%@List.getElem?_cons_zero:=@List.getElem?_cons_zero
def ZX:type_of%@Option.bind_eq_some_iff:=@Option.bind_eq_some_iff
def ZY:type_of%@List.drop_eq_getElem_cons:=@List.drop_eq_getElem_cons
def ZZ:type_of%@List.mem_iff_getElem?:=@List.mem_iff_getElem?
def Z0:type_of%@List.length_nil:=@List.length_nil
def Z1:type_of%@Nat.add_assoc:=@Nat.add_assoc
def Z2:type_of%@List.mem_append_left:=@List.mem_append_left
def Z3:type_of%@List.getElem?_eq_none:=@List.getElem?_eq_none
def Z4:type_of%@Option.isSome_none:=@Option.isSome_none
def Z5:type_of%@Nat.lt_of_lt_of_le:=@Nat.lt_of_lt_of_le
def Z6:type_of%@List.length_pos_iff:=@List.length_pos_iff
def Z7:type_of%@Nat.add_mul:=@Nat.add_mul
def Z8:type_of%@Bool.eq_iff_iff:=@Bool.eq_iff_iff
def Z9:type_of%@List.flatten_cons:=@List.flatten_cons
def Ya:type_of%@Option.isSome_some:=@Option.isSome_some
def Yb:type_of%@Option.ne_none_iff_exists':=@Option.ne_none_iff_exists'
def Yc:type_of%@List.eq_nil_of_length_eq_zero:=@List.eq_nil_of_length_eq_zero
def Yd:type_of%@Option.some.inj:=@Option.some.inj
def Ye:type_of%@Nat.le_succ:=@Nat.le_succ
def Yf:type_of%@List.drop_zero:=@List.drop_zero
def Yg:type_of%@List.set_cons_zero:=@List.set_cons_zero
def Yh:type_of%@List.set_cons_succ:=@List.set_cons_succ
def Yi:type_of%@Bool.and_self:=@Bool.and_self
def Yj:type_of%@List.drop_succ_cons:=@List.drop_succ_cons
def Yk:type_of%@List.size_toArray:=@List.size_toArray
def Yl:type_of%@Bool.not_false:=@Bool.not_false
def Ym:type_of%@beq_self_eq_true:=@beq_self_eq_true
def Yn:type_of%@Bool.not_true:=@Bool.not_true
def Yo:type_of%@Nat.lt_succ_self:=@Nat.lt_succ_self
def Yp:type_of%@List.filter_cons:=@List.filter_cons
def Yq:type_of%@List.length_take:=@List.length_take
def Yr:type_of%@List.getElem?_set:=@List.getElem?_set
def Ys:type_of%@Array.getElem?_append_left:=@Array.getElem?_append_left
def Yt:type_of%@List.take_zero:=@List.take_zero
def Yu:type_of%@Option.map_eq_some_iff:=@Option.map_eq_some_iff
def Yv:type_of%@Option.bind_assoc:=@Option.bind_assoc
def Yw:type_of%@List.map_congr_left:=@List.map_congr_left
def Yx:type_of%@Bool.or_eq_true:=@Bool.or_eq_true
def Yy:type_of%@List.all_eq_true:=@List.all_eq_true
def Yz:type_of%@List.getElem?_drop:=@List.getElem?_drop
def YA:type_of%@List.getElem?_take_of_lt:=@List.getElem?_take_of_lt
def YB:type_of%@List.length_eq_zero_iff:=@List.length_eq_zero_iff
def YC:type_of%@Array.ext':=@Array.ext'
def YD:type_of%@Option.map_none:=@Option.map_none
def YE:type_of%@List.mem_filter:=@List.mem_filter
def YF:type_of%@List.map_append:=@List.map_append
def YG:type_of%@List.flatten_append:=@List.flatten_append
def YH:type_of%@List.map_map:=@List.map_map
def YI:type_of%@Nat.sub_zero:=@Nat.sub_zero
def YJ:type_of%@decide_false:=@decide_false
def YK:type_of%@List.drop_eq_nil_of_le:=@List.drop_eq_nil_of_le
def YL:type_of%@Bool.and_true:=@Bool.and_true
def YM:type_of%@Nat.mod_eq_of_lt:=@Nat.mod_eq_of_lt
def YN:type_of%@Nat.eq_of_mul_eq_mul_right:=@Nat.eq_of_mul_eq_mul_right
def YO:type_of%@List.getElem?_toArray:=@List.getElem?_toArray
def YP:type_of%@List.mem_or_eq_of_mem_set:=@List.mem_or_eq_of_mem_set
def YQ:type_of%@List.pairwise_iff_getElem:=@List.pairwise_iff_getElem
def YR:type_of%@List.length_set:=@List.length_set
def YS:type_of%@List.mem_of_mem_take:=@List.mem_of_mem_take
def YT:type_of%@Array.size_append:=@Array.size_append
def YU:type_of%@Nat.lt_trichotomy:=@Nat.lt_trichotomy
def YV:type_of%@Nat.sub_self:=@Nat.sub_self
def YW:type_of%@List.set_nil:=@List.set_nil
def YX:type_of%@List.foldl_append:=@List.foldl_append
def YY:type_of%@List.filter_toArray:=@List.filter_toArray
def YZ:type_of%@List.cons_append:=@List.cons_append
def Y0:type_of%@Option.getD_some:=@Option.getD_some
def Y1:type_of%@decide_true:=@decide_true
def Y2:type_of%@Nat.beq_refl:=@Nat.beq_refl
def Y3:type_of%@beq_iff_eq:=@beq_iff_eq
def Y4:type_of%@Nat.zero_mul:=@Nat.zero_mul
def Y5:type_of%@Prod.mk.injEq:=@Prod.mk.injEq
def Y6:type_of%@Array.getElem?_modify:=@Array.getElem?_modify
def Y7:type_of%@Nat.le_div_iff_mul_le:=@Nat.le_div_iff_mul_le
def Y8:type_of%@Array.mem_of_getElem?:=@Array.mem_of_getElem?
def Y9:type_of%@List.ext_getElem?:=@List.ext_getElem?
def za:type_of%@List.flatMap_cons:=@List.flatMap_cons
def zb:type_of%@List.mapM_cons:=@List.mapM_cons
def zc:type_of%@Nat.zero_le:=@Nat.zero_le
def zd:type_of%@Nat.mul_le_mul_right:=@Nat.mul_le_mul_right
def ze:type_of%@List.mem_iff_getElem:=@List.mem_iff_getElem
def zf:type_of%@Nat.le_of_eq:=@Nat.le_of_eq
def zg:type_of%@Nat.lt_or_ge:=@Nat.lt_or_ge
def zh:type_of%@Nat.le_add_right:=@Nat.le_add_right
def zi:type_of%@List.take_length:=@List.take_length
def zj:type_of%@List.cons.injEq:=@List.cons.injEq
def zk:type_of%@Option.toList_some:=@Option.toList_some
def zl:type_of%@List.find?_eq_none:=@List.find?_eq_none
def zm:type_of%@Nat.le_of_lt:=@Nat.le_of_lt
def zn:type_of%@Nat.not_lt:=@Nat.not_lt
def zo:type_of%@true_and:=@true_and
def zp:type_of%@and_true:=@and_true
def zq:type_of%@and_self:=@and_self
def zr:type_of%@Nat.succ_mul:=@Nat.succ_mul
def zs:type_of%@Nat.add_comm:=@Nat.add_comm
def zt:type_of%@Nat.mod_lt:=@Nat.mod_lt
def zu{p q:Prop}(a:q)(h:q->p:=by intro h;omega):p:=h a
def zv(a b:Nat)(h:b<=a:=by omega):decide ((a:Int)<(b:Int))=false:=decide_eq_false (by omega)
def zw(a b:Nat)(h:a<b:=by omega):decide ((a:Int)<(b:Int))=true:=decide_eq_true (by omega)
def zx{α:Type}(l:List α)(i:Nat)(h:i<l.length:=by omega):∃x,l[i]? =some x:=⟨_,List.getElem?_eq_getElem h⟩
def zH{p:Prop}(h:p:=by intro x y z a;obtain⟨H,a,_⟩:=a;cases a):p:=h
def zI{p:Prop}(h:p:=by intro x y z a;obtain⟨E,H,a,_⟩:=a;cases a):p:=h
def zJ{p:Prop}(h:p:=by simp only[Zb];omega):p:=h
def zK{p:Prop}(h:p:=by simp only[Zc];omega):p:=h
end Go
namespace Go.Q
noncomputable section
inductive F(α:Type) where
 |nil
 |node (v:Option α) (h r:F α)
 deriving Inhabited
universe L
def aQ{α:Type L}(c:Bool)(t j:α):α:=Bool.rec (motive:=λ_=>α) j t c
def F.get{α:Type}(t:F α):Nat->Option α:=
 F.rec (motive:=λ_=>Nat->Option α) (λ_=>none)
  (λv _ _ a b i=>Nat.rec (motive:=λ_=>Option α) v (λE _=>aQ (Nat.beq (Nat.mod E 2) 0) (a (Nat.div E 2)) (b (Nat.div E 2))) i) t
def et{α a:Type}(t:F α)(k:F α->a):a:=
 F.rec (motive:=λ_=>a) (k .nil) (λv h r _ _=>k (.node v h r)) t
def F.ih{α:Type}(f:Nat):F α->Nat->Option α->F α:=
 Nat.rec (motive:=λ_=>F α->Nat->Option α->F α) (λt _ _=>t)
  (λ_ U t i a=>F.rec (motive:=λ_=>F α)
   (Nat.rec (motive:=λ_=>F α) (.node a .nil .nil) (λE _=>aQ (Nat.beq (Nat.mod E 2) 0)
    (et (U .nil (Nat.div E 2) a) λb=> .node none b .nil) (et (U .nil (Nat.div E 2) a) λc=> .node none .nil c)) i)
   (λv h r _ _=>Nat.rec (motive:=λ_=>F α) (.node a h r) (λE _=>aQ (Nat.beq (Nat.mod E 2) 0)
    (et (U h (Nat.div E 2) a) λb=> .node v b r) (et (U r (Nat.div E 2) a) λc=> .node v h c)) i) t) f
def hG{a:Type}(n:Nat)(k:Nat->a):a:=Nat.rec (motive:=λ_=>a) (k 0) (λm _=>k (Nat.succ m)) n
def tR{a:Type}(n:Int)(k:Int->a):a:=
 Int.rec (motive:=λ_=>a) (λm=>hG m λm=>k (.ofNat m)) (λm=>hG m λm=>k (.negSucc m)) n
def cd{α:Type}(h:List (Nat×α)):Nat->Option α:=
 List.rec (motive:=λ_=>Nat->Option α) (λ_=>none) (λp _ U E=>Prod.rec (motive:=λ_=>Option α) (λa b=>aQ (Nat.beq a E) (some b) (U E)) p) h
def F.set{α:Type}(t:F α)(i:Nat)(a:Option α):F α:=F.ih (i+1) t i a
def F.ofList{α:Type}:List α->Nat->F α->F α
 |[],_,t=>t
 |a::h,i,t=>et (t.set i (some a)) λb=>ofList h (i+1) b
def F.eK{α:Type}(t:F α):Nat->Nat->Option (List α)
 |_,0=>some []
 |A,n+1=>match t.get A with
  |none=>none
  |some a=>match eK t (A+1) n with
   |none=>none
   |some h=>some (a::h)
def hN{α:Type}(h:List α):Nat->Option α:=
 List.rec (motive:=λ_=>Nat->Option α) (λ_=>none) (λa _ U i=>Nat.rec (motive:=λ_=>Option α) (some a) (λE _=>U E) i) h
inductive q where
 |bool (b:Bool)
 |int (k:IntKind) (n:Int)
 |str (s:List Nat)
 |ptr (b A:Nat)
 |bt
 |slice (b A len cap:Nat)
 |cH (b A len an:Nat)
 |aw
 |map (m:Nat)
 |fq
 |func (fn:Fn) (first a:List q)
 |nilFunc
 |iface (t:Nat) (v:q)
 |nilIface
 |agg (cs:List q)
 |tuple (aB:List q)
 deriving Inhabited
def q.cells:q->List q
 | .agg cs=>cs
 |v=>[v]
def undef:q:= .tuple []
def mw{α c:Type}(f:α->Option c):List α->Option (List c)
 |[]=>some []
 |a::h=>match f a with
  |none=>none
  |some b=>match mw f h with
   |none=>none
   |some r=>some (b::r)
def mB:Nat->Value->Option q
 |0,_=>none
 |n+1,v=>match v with
  | .bool b=>some (.bool b)
  | .int k n=>some (.int k n)
  | .string s=>some (.str (s.data.toList.map (·.toNat)))
  | .pointer none=>some .bt
  | .slice none 0 0=>some .aw
  | .map none=>some .fq
  | .func (.func f) ⟨[]⟩ ⟨[]⟩=>some (.func (.func f) [] [])
  | .nilFunc=>some .nilFunc
  | .iface t v=>match mB n v with|some a=>some (.iface t a)|none=>none
  | .nilIface=>some .nilIface
  | .agg cs=>match mw (mB n) cs.toList with|some h=>some (.agg h)|none=>none
  | .tuple cs=>match mw (mB n) cs.toList with|some h=>some (.tuple h)|none=>none
  |_=>none
def nG(v:Value):Option q:=mB 20 v
inductive sK where
 |fn (fn:Fn) (a:List q)
 |collected (r:Nat)
structure dI where
 target:sK
 args:List q
inductive h1 where
 |own|marked|grow (ch:List Nat)|eA
 deriving Inhabited
inductive ac where
 |cells (c:F q) (size:Nat) (st:h1)
 |map (ak:List (q×q×Nat)) (d:Nat)
 |look (ak:List (q×q))
 |kp (s:List Nat) (pos:Nat)
 |eT (m:Option Nat) (a:Nat) (seen:List Nat) (g:Nat)
 |jy (m a n:Nat) (bL:List Nat) (st:Nat) (f:Option Nat)
 |loop (state:LoopState) (pending:Option Code) (fn:Nat) (n aa:Nat) (y:F q) (params:List Nat) (assign body:Code) (defers:Nat)
 |deferred (b:Option (List dI))
structure ax where
 P:Program
 G:F ac
 aN:Nat
 dv:Nat->List q->Option q
 cI:Nat
def H(C:ax)(S:F ac)(b:Nat):Option ac:=
 aQ (Nat.blt b C.aN) (C.G.get b) (S.get (Nat.sub b C.aN))
def aP(C:ax)(S:F ac)(b:Nat)(A:Option ac):F ac:=S.set (Nat.sub b C.aN) A
def eS(C:ax)(b:Nat):Bool:=Nat.ble C.aN b
structure ik where
 v:q
 recovered:Bool
inductive fa where
 |run|returning|panicking (chain:List ik)
inductive eQ where
 |v (E:Nat)
 |t (n:Nat)
 |c (a:q)
inductive eB where
 |nB (x:eQ)
 |pick (c a b:eQ)
 |cW (a:eQ)
 |ms (n:Nat) (a:eQ)
 |off (d:Nat) (x:eQ)
 |mn (n an:Nat) (x i:eQ)
 |mo (an:Nat) (x i:eQ)
 |nE (x:eQ)
 |pP (op:BinOp) (x g:eQ)
 |ext (i:Nat) (x:eQ)
 |st (n:Nat) (a v:eQ)
 |call (f:Nat) (args:List eQ)
 |dT (a1:List (Nat×Nat)) (A:Op)
 |make (a1:List (Nat×Nat)) (A:Op)
 |cy (a1:List (Nat×Nat)) (A:Op)
structure cA where
 i:Nat
 g:Option (Nat×Bool)
 op:eB
structure jS where
 iV:List cA
 uP:List cA
 cy:Option cA
inductive bS where
 |code (c:Code)
 |inBlock (id:Nat)
 |inLoop (body:Code)
 |inScope (body:Code)
 |o2 (ab:Array Oper) (V:List (Nat×q)) (rest:List cA) (fin:List (Nat×Nat))
 |drawn (ab:Array Oper) (base:Nat) (V:List (Nat×q)) (fi:List jS) (fin:List (Nat×Nat))
 |iG (ab:Array Oper) (V:List (Nat×q)) (e:Nat) (rest:List cA) (fin:List (Nat×Nat))
 |lE (ab:Array Oper) (base:Nat) (V:List (Nat×q)) (e:Nat) (fi:List jS) (fin:List (Nat×Nat))
 |inRangeFunc (h:Nat)
 |endRangeFunc (h:Nat)
 |beginRound
structure dn where
 fn:Nat
 n:Nat
 aa:Nat
 y:F q
 todo:List bS
 defers:List dI
 mode:fa
 deferred:Bool
 roundOf:Option Nat
section ab
variable(C:ax)
def d6(t:Nat):Option Nat:=match C.P.info? t with|some i=>some i.size|none=>none
def hW(t:Nat):Option q:=match C.P.info? t with|some i=>(match i.zero with|some v=>nG v|none=>none)|none=>none
def nr(t:Nat):Option Bool:=match C.P.underlying t with
 |some (.struct _)=>some true|some (.array _ _)=>some true|some _=>some false|none=>none
def e5:List q->Nat->List q->List q
 |cs,_,[]=>cs
 |cs,A,v::h=>e5 (cs.set A v) (A+1) h
def me(a:Nat->Option (Nat×Nat)):List q->List (Nat×q)->Option (List q)
 |cells,[]=>some cells
 |cells,(i,v)::rest=>match a i with
  |none=>none
  |some (off,size)=>
   aQ (Nat.beq v.cells.length size&&Nat.ble (off+size) cells.length) (me a (e5 cells off v.cells) rest)<|none
def ew:Nat->List q->List q
 |0,_=>[]
 |n+1,z=>z++ew n z
def kV(ad:Operand->Option q):List (Nat×Operand)->Option (List (Nat×q))
 |[]=>some []
 |(i,x)::h=>match ad x,kV ad h with|some v,some r=>some ((i,v)::r)|_,_=>none
def hj(ad:Operand->Option q):List Operand->Option (List q)
 |[]=>some []
 |x::h=>match ad x,hj ad h with|some v,some r=>some (v::r)|_,_=>none
def vc(a:List Field)(i:Nat):Option (Nat×Nat):=
 match hN a i with
 |some f=>(match d6 C f.type with|some s=>some (f.offset,s)|none=>none)
 |none=>none
def r8:List Field->Bool
 |[]=>true
 |f::h=>(match d6 C f.type with|some _=>true|none=>false)&&r8 h
def qJ(t:Nat)(parts:List (Nat×q)):Option q:=
 match hW C t with
 |none=>none
 |some z=>match C.P.underlying t with
  |some (.struct a)=>aQ (r8 C a.toList) (match me (vc C a.toList) z.cells parts with|some cs=>some (.agg cs)|none=>none) none
  |some (.array _ bW)=>(match d6 C bW with
   |some s=>(match me (λi=>some (i*s,s)) z.cells parts with|some cs=>some (.agg cs)|none=>none)
   |none=>none)
  |_=>none
def m3(t:Nat)(cs:List q)(off:Nat):Option q:=
 match nr C t,d6 C t with
 |some true,some s=>some (.agg ((cs.drop off).take s))
 |some false,_=>hN cs off
 |_,_=>none
def f2:List Nat->List Nat->Bool
 |[],[]=>true
 |a::x,b::c=>Nat.beq a b&&f2 x c
 |_,_=>false
def mA:List Nat->List Nat->Bool
 |_,[]=>false
 |[],_::_=>true
 |a::x,b::c=>Nat.blt a b||(Nat.beq a b&&mA x c)
def se(S:F ac)(b A:Nat):Bool:=match H C S b with
 |some (.cells _ n .own)=>eS C b&&Nat.blt A n
 |_=>false
def oQ(S:F ac)(b A:Nat):Bool:=match H C S b with
 |some (.cells _ _ .eA)=>false
 |some (.cells _ n _)=>Nat.blt A n
 |_=>false
def ptrEq(S:F ac)(b A a o':Nat):Option Bool:=
 aQ (Nat.beq b a) (some (Nat.beq A o')) (aQ (se C S b A&&oQ C S a o'||se C S a o'&&oQ C S b A) (some false) none)
def pd(eq:Nat->q->q->Option Bool):List Field->List q->List q->Option Bool
 |[],_,_=>some true
 |f::eJ,c,d=>
  aQ (f.name== "_") none<|
  match m3 C f.type c f.offset,m3 C f.type d f.offset with
  |some a,some b=>(match eq f.type a b with
   |some true=>pd eq eJ c d
   |some false=>some false
   |none=>none)
  |_,_=>none
def f0(k co:IntKind):Bool:=match k,co with
 | .i8, .i8=>true| .i16, .i16=>true| .i32, .i32=>true| .i64, .i64=>true
 | .u8, .u8=>true| .u16, .u16=>true| .u32, .u32=>true| .u64, .u64=>true
 |_,_=>false
def qZ(a b:Bool):Bool:=match a,b with|true,true=>true|false,false=>true|_,_=>false
def jq(x c:Int):Bool:=match x,c with
 | .ofNat a, .ofNat b=>Nat.beq a b
 | .negSucc a, .negSucc b=>Nat.beq a b
 |_,_=>false
def kf(x c:Int):Bool:=match x,c with
 | .ofNat a, .ofNat b=>Nat.blt a b
 | .negSucc a, .negSucc b=>Nat.blt b a
 | .negSucc _, .ofNat _=>true
 | .ofNat _, .negSucc _=>false
def fG(S:F ac):Nat->Nat->q->q->Option Bool
 |0,_,_,_=>none
 |d+1,t,x,r=>
  match C.P.underlying t,x,r with
  |some .bool, .bool a, .bool b=>some (qZ a b)
  |some (.int _), .int k a, .int co b=>aQ (f0 k co) (some (jq a b)) none
  |some .string, .str a, .str b=>some (f2 a b)
  |some (.pointer _), .bt, .bt=>some true
  |some (.pointer _), .bt, .ptr _ _=>some false
  |some (.pointer _), .ptr _ _, .bt=>some false
  |some (.pointer j), .ptr b A, .ptr f o'=>
   (
    match d6 C j with
    |some s=>aQ (Nat.beq s 0) none (ptrEq C S b A f o')
    |none=>none)
  |some (.interface _), .nilIface, .nilIface=>some true
  |some (.interface _), .nilIface, .iface _ _=>some false
  |some (.interface _), .iface _ _, .nilIface=>some false
  |some (.interface _), .iface c m, .iface ty n=>aQ (Nat.beq c ty) (match C.P.info? c with
   |some i=>aQ i.comparable (fG S d c m n) none
   |none=>none) (some false)
  |some (.slice _), .aw, .aw=>some true
  |some (.slice _), .aw, .slice .. =>some false
  |some (.slice _), .aw, .cH .. =>some false
  |some (.slice _), .slice .., .aw=>some false
  |some (.slice _), .cH .., .aw=>some false
  |some (.map _ _), .fq, .fq=>some true
  |some (.map _ _), .fq, .map _=>some false
  |some (.map _ _), .map _, .fq=>some false
  |some (.func _ _ _), .nilFunc, .nilFunc=>some true
  |some (.func _ _ _), .nilFunc, .func .. =>some false
  |some (.func _ _ _), .func .., .nilFunc=>some false
  |some (.struct g), .agg p, .agg v=>aQ (C.P.stoodInHeld t) none (pd C (fG S d) g.toList p v)
  |_,_,_=>none
def hV(k:IntKind)(n:Int):Int:=
 match k with
 | .i64=>(λm:Int=>aQ (decide (m<9223372036854775808)) m (m-18446744073709551616)) (n%18446744073709551616)
 | .u64=>n%18446744073709551616
 | .u8=>n%256
 |k=>k.wrap n
def gH(k:IntKind)(n:Int):Option q:=tR n λn=>some (.int k n)
def fm(k:IntKind)(n:Int):Option q:=tR (hV k n) λn=>some (.int k n)
def gz(b:Bool):Option q:=aQ b (some (.bool true)) (some (.bool false))
def fH(op:BinOp):IntKind->Int->Int->Option q:=
 match op with
 | .add=>λk x a=>fm k (x+a)
 | .sub=>λk x a=>fm k (x-a)
 | .mul=>λk x a=>fm k (x*a)
 | .quo=>λk x a=>aQ (jq a 0) none (fm k (x.tdiv a))
 | .rem=>λk x a=>aQ (jq a 0) none (gH k (x.tmod a))
 | .and=>λk x a=>fm k ((BitVec.ofInt k.bits x&&& BitVec.ofInt k.bits a).toNat)
 | .or=>λk x a=>fm k ((BitVec.ofInt k.bits x|||BitVec.ofInt k.bits a).toNat)
 | .xor=>λk x a=>fm k ((BitVec.ofInt k.bits x^^^BitVec.ofInt k.bits a).toNat)
 | .andNot=>λk x a=>fm k ((BitVec.ofInt k.bits x&&& ~~~ BitVec.ofInt k.bits a).toNat)
 | .eql=>λ_ x a=>gz (jq x a)
 | .neq=>λ_ x a=>gz (!jq x a)
 | .lss=>λ_ x a=>gz (kf x a)
 | .leq=>λ_ x a=>gz (!kf a x)
 | .gtr=>λ_ x a=>gz (kf a x)
 | .geq=>λ_ x a=>gz (!kf x a)
 |_=>λ_ _ _=>none
def pg(op:BinOp)(k:IntKind)(x a:Int):Option q:=
 aQ (kf a 0) none
 (match op with
 | .shl=>fm k (x*2^(min a.toNat k.bits))
 | .shr=>gH k (x.fdiv (2^(min a.toNat k.bits)))
 |_=>none)
def fK(op:BinOp):Bool:=match op with| .shl| .shr=>true|_=>false
def m4(op:BinOp)(x a:List Nat):Option q:=
 match op with
 | .add=>aQ (Nat.ble (x.length+a.length) 1000000000) (some (.str (x++a)))<|none
 | .eql=>gz (f2 x a)
 | .neq=>gz (!f2 x a)
 | .lss=>gz (mA x a)
 | .leq=>gz (mA x a||f2 x a)
 | .gtr=>gz (!(mA x a||f2 x a))
 | .geq=>gz (!mA x a)
 |_=>none
def ag(op:BinOp)(x c:q):Option q:=
 match x,c with
 | .int k a, .int co b=>aQ (fK op) (pg op k a b) (aQ (f0 k co) (fH op k a b) none)
 |_,_=>none
def oz(t:Nat)(a:Bool)(x c:q):Bool:=match x,c with
 | .nilIface, .nilIface=>a||(match C.P.underlying t with|some (.interface b)=>b.isEmpty|_=>false)
 | .agg _, .agg _=> !C.P.eqGuardType C.P.depth t
 |_,_=>true
def bZ(S:F ac)(op:BinOp)(t:Nat)(d:Bool)(x c:q):Option q:=
 match x,c with
 | .int k a, .int co b=>ag op (.int k a) (.int co b)
 | .str a, .str b=>m4 op a b
 |x,c=>aQ (oz C t d x c) (match op with
  | .eql=>(match fG C S 50 t x c with|some b=>gz b|none=>none)
  | .neq=>(match fG C S 50 t x c with|some b=>gz (!b)|none=>none)
  |_=>none) none
def cY(op:UnOp)(x:q):Option q:=
 match op,x with
 | .neg, .int k n=>fH .sub k 0 n
 | .xor, .int k n=>fH .xor k (if k.signed then -1 else k.max) n
 | .not, .bool b=>gz (!b)
 |_,_=>none
def s0(src dst:Nat)(x:q):Option q:=
 match C.P.underlying src,C.P.underlying dst,x with
 |some _,some (.int k), .int _ n=>fm k n
 |some _,some .string, .str s=>some (.str s)
 |_,_,_=>none
def f1(v:q):Option Nat:=match v with| .int _ n=>(match n with| .ofNat n=>some n|_=>none)|_=>none
def hn(A:Option q)(m d:Nat):Option Nat:=match A with
 |some v=>(match f1 v with|some n=>aQ (Nat.ble n m) (some n)<|none|none=>none)
 |none=>some d
def gT(len cap:Nat)(aC ai a:Option q):Option (Nat×Nat×Nat):=
 match hn a cap cap with
 |none=>none
 |some m=>match (match ai,a with
   |none,some _=>none
   |ai,_=>hn ai m len)with
  |none=>none
  |some e=>match hn aC e 0 with
   |none=>none
   |some h=>some (h,e,m)
def mD(ad:Operand->Option q):Option Operand->Option (Option q)
 |none=>some none
 |some x=>match ad x with|some v=>some (some v)|none=>none
def jH(S:F ac)(b:Nat):Option Nat:=match H C S b with|some (.cells _ n (.grow _))=>some n|some (.cells _ n .eA)=>some n|_=>none
def qT(S:F ac)(t:Nat)(x:q)(aC ai a:Option q):Option q:=
 match C.P.underlying t,x with
 |some .string, .str s=>(match a with
  |some _=>none
  |none=>(match gT s.length s.length aC ai none with
   |some (h,e,_)=>some (.str ((s.drop h).take (e-h)))
   |none=>none))
 |some (.slice bW), .slice b A len cap=>(match gT len cap aC ai a,d6 C bW with
  |some (h,e,m),some an=>some (.slice b (aQ (Nat.beq m h) (A)<|A+h*an) (e-h) (m-h))
  |_,_=>none)
 |some (.slice bW), .aw=>(match gT 0 0 aC ai a,d6 C bW with
  |some _,some _=>some .aw
  |_,_=>none)
 |some (.slice bW), .cH b A len an=>(match d6 C bW,jH C S b with
  |some c,some n=>aQ (Nat.beq an c&&Nat.blt 0 an) ((match gT len ((n-A)/an) aC ai a with
    |some (h,e,m)=>(match a with
     |some _=>some (.slice b (aQ (Nat.beq m h) (A)<|A+h*an) (e-h) (m-h))
     |none=>aQ (Nat.blt h ((n-A)/an)||Nat.beq h 0) (some (.cH b (A+h*an) (e-h) an))<|none)
    |none=>none))<|none
  |_,_=>none)
 |some (.array n bW), .ptr b A=>(match gT n n aC ai a,d6 C bW with
  |some (h,e,m),some an=>some (.slice b (aQ (Nat.beq m h) (A)<|A+h*an) (e-h) (m-h))
  |_,_=>none)
 |_,_=>none
def qP(t:Nat)(x i:q):Option q:=
 match f1 i with
 |none=>none
 |some i=>match C.P.underlying t,x with
  |some (.array n bW), .agg cs=>(match d6 C bW with|some an=>aQ (Nat.blt i n) (m3 C bW cs (i*an))<|none|none=>none)
  |some .string, .str s=>(match hN s i with|some c=>some (.int .u8 (Int.ofNat c))|none=>none)
  |_,_=>none
def cellsOf(S:F ac)(b:Nat):Option (F q):=match H C S b with
 |some (.cells c _ _)=>some c
 |_=>none
def W(S:F ac)(a:q):Option q:=
 match a with
 | .ptr b A=>(match cellsOf C S b with
   |some c=>c.get A
   |none=>none)
 |_=>none
def br(S:F ac)(n:Nat)(a:q):Option q:=
 match a with
 | .ptr b A=>(match cellsOf C S b with
   |some c=>(match c.eK A n with|some h=>some (.agg h)|none=>none)
   |none=>none)
 |_=>none
def iM(S:F ac)(t:Nat)(a:q):Option q:=
 match nr C t,d6 C t with
 |some true,some s=>br C S s a
 |some false,_=>W C S a
 |_,_=>none
def fV:Nat->Nat->q->Bool
 |0,_,_=>false
 |n+1,t,v=>match C.P.underlying t,v with
  |some (.interface _), .iface d x=>(match C.P.info? d with|some i=>i.comparable&&fV n d x|none=>false)
  |some (.interface _), .nilIface=>true
  |some (.interface _),_=>false
  |some (.struct a), .agg cs=>a.toList.all λf=>f.name== "_"||(match m3 C f.type cs f.offset with|some p=>fV n f.type p|none=>false)
  |some (.struct _),_=>false
  |some (.array _ _),_=>false
  |some _,_=>true
  |none,_=>false
def gJ:Nat->q->q->Bool
 |0,_,_=>false
 |n+1,x,c=>match x,c with
  | .bool a, .bool b=>qZ a b
  | .int k a, .int co b=>f0 k co&&jq a b
  | .str a, .str b=>f2 a b
  | .ptr b A, .ptr d o'=>Nat.beq b d&&Nat.beq A o'
  | .bt, .bt=>true
  | .nilIface, .nilIface=>true
  | .iface t v, .iface f g=>Nat.beq t f&&gJ n v g
  | .agg a, .agg b=>mr n a b
  |_,_=>false
 where
 mr (n:Nat):List q->List q->Bool
 |[],[]=>true
 |x::a,c::b=>gJ n x c&&mr n a b
 |_,_=>false
def findKey(S:F ac)(t:Nat)(k:q):List (q×q×Nat)->Nat->Option (Option (Nat×q))
 |[],_=>some none
 |(co,v,_)::ak,i=>match fG C S 20 t k co with
  |some true=>some (some (i,v))
  |some false=>findKey S t k ak (i+1)
  |none=>none
def hL(S:F ac)(t:Nat)(k:q):List (q×q)->Option (Option q)
 |[]=>some none
 |(co,v)::ak=>match hL S t k ak,fG C S 20 t k co with
  |some r,some false=>some r
  |some none,some true=>some (some v)
  |_,_=>none
def rX(r:Option (Option q)):Option (Option (Nat×q)):=match r with
 |some (some v)=>some (some (0,v))
 |some none=>some none
 |none=>none
def qS(S:F ac)(t:Nat)(m k:q)(ok:Bool):Option q:=
 match C.P.underlying t with
 |some (.map a b)=>
  (match (match m with
   | .fq=>aQ (fV C 20 a k) (some none) none
   | .map r=>(match H C S r with|some (.map ak _)=>aQ (fV C 20 a k) (findKey C S a k ak 0) none|some (.look ak)=>aQ (fV C 20 a k) (rX (hL C S a k ak)) none|_=>none)
   |_=>none)with
  |none=>none
  |some none=>(match hW C b with|some z=>some (aQ (ok) (.tuple [z, .bool false])<|z)|none=>none)
  |some (some (_,v))=>some (aQ (ok) (.tuple [v, .bool true])<|v))
 |_=>none
def qR(S:F ac)(t:Nat)(x:q):Option q:=
 match C.P.underlying t,x with
 |some .string, .str s=>gH .i64 (Int.ofNat s.length)
 |some (.array n _),_=>some (.int .i64 (Int.ofNat n))
 |some (.pointer a2),_=>(match C.P.underlying a2 with|some (.array n _)=>some (.int .i64 (Int.ofNat n))|_=>none)
 |some (.slice _), .slice _ _ n _=>gH .i64 (Int.ofNat n)
 |some (.slice _), .cH _ _ n _=>gH .i64 (Int.ofNat n)
 |some (.slice _), .aw=>some (.int .i64 0)
 |some (.map _ _), .fq=>some (.int .i64 0)
 |some (.map _ _), .map r=>(match H C S r with|some (.map ak _)=>gH .i64 (Int.ofNat ak.length)|_=>none)
 |_,_=>none
def qK(t:Nat)(x:q):Option q:=
 match C.P.underlying t,x with
 |some (.slice _), .slice _ _ _ n=>gH .i64 (Int.ofNat n)
 |some (.slice _), .aw=>some (.int .i64 0)
 |_,_=>none
def hC(b:Bool):q->List q->Option q
 |v,[]=>some v
 | .int k x, .int _ a::h=>hC b (.int k (aQ (b) ((aQ (kf x a) (a)<|x))<|(aQ (kf a x) (a)<|x))) h
 |_,_=>none
def m8:List q->Option (List Nat)
 |[]=>some []
 | .int .u8 (.ofNat n)::h=>(match m8 h with|some r=>some (n%256::r)|none=>none)
 |_=>none
def fW(S:F ac)(b A n:Nat):Option (List q):=
 match cellsOf C S b with
 |some c=>c.eK A n
 |none=>aQ (Nat.beq n 0) (some []) none
def qU(S:F ac)(x:q):Option q:=
 match x with
 | .aw=>some (.str [])
 | .slice b A len _=>(match fW C S b A len with|some h=>(match m8 h with|some s=>some (.str s)|none=>none)|none=>none)
 | .cH b A len _=>(match fW C S b A len with|some h=>(match m8 h with|some s=>some (.str s)|none=>none)|none=>none)
 |_=>none
def ua(t:Nat)(parts:Array (Nat×Operand))(_:F ac)(ad:Operand->Option q):Option q:=
 match kV ad parts.toList with|some bE=>qJ C t bE|none=>none
def hJ(A:Operand):Bool:=match A with| .const _=>true|_=>false
def rP(op:BinOp)(t:Nat)(x c:Operand)(S:F ac)(ad:Operand->Option q):Option q:=
 match ad x,ad c with|some a,some b=>bZ C S op t (hJ x||hJ c) a b|_,_=>none
def uh(op:UnOp)(x:Operand)(_:F ac)(ad:Operand->Option q):Option q:=
 match ad x with|some a=>cY op a|none=>none
def pY(s d:Nat)(x:Operand)(S:F ac)(ad:Operand->Option q):Option q:=
 match ad x with
 |some a=>(match s0 C s d a with
  |some v=>some v
  |none=>(match C.P.underlying s,C.P.underlying d with
   |some (.slice j),some .string=>(match C.P.underlying j with|some (.int .u8)=>qU C S a|_=>none)
   |_,_=>none))
 |none=>none
def p1(t:Nat)(x:Operand)(_:F ac)(ad:Operand->Option q):Option q:=
 match C.P.underlying t,ad x with
 |some (.interface _),_=>none
 |some _,some v=>some (.iface t v)
 |_,_=>none
def ud(fn:Fn)(first c:Array Operand)(_:F ac)(ad:Operand->Option q):Option q:=
 match hj ad first.toList,hj ad c.toList with
 |some a,some b=>(match fn with| .func f=>some (.func (.func f) a b)|_=>none)
 |_,_=>none
def ug(t:Nat)(x:Operand)(aC ai a:Option Operand)(S:F ac)(ad:Operand->Option q):Option q:=
 match ad x,mD ad aC,mD ad ai,mD ad a with
 |some v,some h,some e,some m=>qT C S t v h e m
 |_,_,_,_=>none
def p0(t:Nat)(x:Operand)(f:Nat)(_:F ac)(ad:Operand->Option q):Option q:=
 match C.P.underlying t,ad x with
 |some (.struct b),some (.agg cs)=>(match hN b.toList f with
  |some a=>m3 C a.type cs a.offset
  |none=>none)
 |_,_=>none
def ue(t:Nat)(x i:Operand)(_:F ac)(ad:Operand->Option q):Option q:=
 match ad x,ad i with|some a,some b=>qP C t a b|_,_=>none
def uf(t:Nat)(m k:Operand)(ok:Bool)(S:F ac)(ad:Operand->Option q):Option q:=
 match ad m,ad k with|some a,some b=>qS C S t a b ok|_,_=>none
def pX(x:Operand)(a:Nat)(ok:Bool)(_:F ac)(ad:Operand->Option q):Option q:=
 match C.P.underlying a,ad x with
 |some (.interface _),_=>none
 |some _,some .nilIface=>aQ (ok) ((match hW C a with|some z=>some (.tuple [z, .bool false])|none=>none))<|none
 |some _,some (.iface t v)=>aQ (Nat.beq t a) (some (aQ (ok) (.tuple [v, .bool true])<|v))<|aQ (ok) ((match hW C a with|some z=>some (.tuple [z, .bool false])|none=>none))<|none
 |_,_=>none
def ub(b:Builtin)(args:Array Operand)(bu:Array TypeId)(S:F ac)(ad:Operand->Option q):Option q:=
 match b,hj ad args.toList with
 | .len,some [x]=>(match bu.toList with|t::_=>qR C S t x|_=>none)
 | .cap,some [x]=>(match bu.toList with|t::_=>qK C t x|_=>none)
 | .max,some (x::h)=>hC true x h
 | .min,some (x::h)=>hC false x h
 |_,_=>none
def uc(c:Call)(S:F ac)(ad:Operand->Option q):Option q:=
 match c with
 |⟨.builtin b,args,bu⟩=>ub C b args bu S ad
 |_=>none
def p2:List Nat->Option Nat
 |[]=>none
 |a::h=>match h with|[]=>some a|_=>p2 h
def mf(b:Nat):List (q×q×Nat)->Option (q×q×Nat)
 |[]=>none
 |j::ak=>aQ (Nat.beq j.2.2 b) (some j) (mf b ak)
def pZ(f:Operand)(S:F ac)(ad:Operand->Option q):Option q:=
 match ad f with
 |some (.ptr r 0)=>(match H C S r with
  |some (.eT (some m) _ seen c)=>(match p2 seen,H C S m with
   |some b,some (.map ak a)=>aQ (Nat.beq a c) (match mf b ak with
    |some (k,v,_)=>some (.tuple [k,v])
    |none=>none) none
   |_,_=>none)
  |some (.jy m _ _ _ c d)=>(match d,H C S m with
   |some b,some (.map ak a)=>aQ (Nat.beq a c) (match mf b ak with
    |some (k,v,_)=>some (.tuple [k,v])
    |none=>none) none
   |_,_=>none)
  |_=>none)
 |_=>none
def gx(A:Op):ax->F ac->(Operand->Option q)->Option q:=
 match A with
 | .build t parts=>λC=>ua C t parts
 | .binOp op t x p _=>λC=>rP C op t x p
 | .unOp op _ x=>λ_=>uh op x
 | .convert s d x=>λC=>pY C s d x
 | .makeInterface t x=>λC=>p1 C t x
 | .makeFunc fn first b=>λ_=>ud fn first b
 | .slice t x aC ai n=>λC=>ug C t x aC ai n
 | .field t x f=>λC=>p0 C t x f
 | .index t x i=>λC=>ue C t x i
 | .lookup t m k ok=>λC=>uf C t m k ok
 | .typeAssert x _ a ok=>λC=>pX C x a ok
 | .entry g=>λC=>pZ C g
 | .call c=>λC=>uc C c
 |_=>λ_ _ _=>none
def mK(c:eB):Bool:=match c with
 | .cW _| .ms _ _=>true
 | .dT _ A=>(match A with
   | .lookup .. | .convert .. | .slice .. | .call _| .binOp .. | .entry _=>true
   |_=>false)
 |_=>false
def ny(t:Nat)(_:Operand->Option q)(b:Nat):Option (q×ac):=
 match hW C t with|some z=>some (.ptr b 0, .cells (F.ofList z.cells 0 .nil) z.cells.length .own)|none=>none
def p5(x:Operand)(ad:Operand->Option q)(b:Nat):Option (q×ac):=
 match ad x with|some v=>some (.ptr b 0, .cells (F.ofList v.cells 0 .nil) v.cells.length .own)|none=>none
def p6(t len:Nat)(parts:Array (Nat×Operand))(ad:Operand->Option q)(b:Nat):Option (q×ac):=
 match C.P.underlying t,kV ad parts.toList with
 |some (.slice bW),some bE=>(match d6 C bW,hW C bW with
  |some s,some z=>aQ (Nat.ble (len*s) 16777216&&Nat.beq z.cells.length s) ((match me (λi=>some (i*s,s)) (ew len z.cells) bE with
    |some cs=>some (.slice b 0 len len, .cells (F.ofList cs 0 .nil) cs.length .own)
    |none=>none))<|none
  |_,_=>none)
 |_,_=>none
def hD(A:Op):ax->(Operand->Option q)->Nat->Option (q×ac):=
 match A with
 | .alloc t=>λC=>ny C t
 | .box _ x=>λ_=>p5 x
 | .buildSlice t len parts=>λC=>p6 C t len parts
 | .makeMap _ none=>λ_ _ b=>some (.map b, .map [] 0)
 |_=>λ_ _ _=>none
def fL:List Nat->F ac->F ac
 |[],e=>e
 |b::h,e=>fL h (aP C e b none)
def cL:F q->Nat->List q->F q
 |c,_,[]=>c
 |c,A,v::h=>et (c.set A (some v)) λc=>cL c (A+1) h
def d5(v:q):Bool:=match v with| .agg _=>false| .tuple _=>false|_=>true
def cN:List q->Bool
 |[]=>true
 |v::h=>d5 v&&cN h
def gU(S:F ac)(b A:Nat)(aB:List q):Option (F ac):=
 match H C S b with
 |some (.cells c n st)=>aQ (Nat.ble (A+aB.length) n&&eS C b&&cN aB) ((match st with
   | .own=>et (cL c A aB) λc=>et (aP C S b (some (.cells c n .own))) λS=>some S
   | .marked=>et (cL c A aB) λc=>et (aP C S b (some (.cells c n .marked))) λS=>some S
   | .grow ch=>et (cL c A aB) λc=>et (aP C (fL C ch S) b (some (.cells c n (.grow [])))) λS=>some S
   |_=>none))<|none
 |_=>none
def gu(S:F ac)(an:Nat)(x:q):Option (Nat×List q):=
 match x with
 | .aw=>some (0,[])
 | .slice b A len _=>(match fW C S b A (len*an)with|some h=>some (len,h)|none=>none)
 | .cH b A len _=>(match fW C S b A (len*an)with|some h=>some (len,h)|none=>none)
 | .str s=>aQ (Nat.beq an 1) (some (s.length,s.map λn=>q.int .u8 (Int.ofNat n))) none
 |_=>none
inductive bY where
 |val (v:q)
 |cu (v:q) (S:F ac) (nx:Nat)
 |enter (f:Nat) (args:List q)
 |known (f:Nat) (args:List q) (v:q)
 |round (h:Nat) (args:List q)
 |defer (d:dI)
 |recover
 |panic (v:q)
 |fork (h:List (q×F ac))
def gp(C:ax)(S:F ac)(nx:Nat)(A:ac)(k:Nat->q):Option bY:=
 hG nx λnx=>et (aP C S nx (some A)) λS=>some (.cu (k nx) S (nx+1))
def j8(S:F ac)(nx n an:Nat)(h:List q):Option bY:=
 aQ (Nat.ble n 1048576) (gp C S nx (.cells (F.ofList h 0 .nil) h.length (.grow [])) λb=> .cH b 0 n an)<|none
def pj(S:F ac)(nx:Nat)(b A len an n:Nat)(h:List q):Option bY:=
 match H C S b with
 |some (
   .cells c size (.grow ch))=>aQ (eS C b)
  (aQ (
   Nat.ble (A+(len+n)*an) size)
   (match gU C S b (A+len*an) h with|some B=>some (.cu (.cH b A (len+n) an) B nx)|none=>none)
   (aQ (Nat.ble (len+n) 1048576&&cN h) (aQ (Nat.beq (A+len*an) size&&Nat.beq A 0)
    (et (cL c size h) λf=>gp C (aP C S b (some (.cells c size .eA))) nx (.cells f (size+h.length) (.grow (b::ch))) λa=> .cH a 0 (len+n) an)
    (match c.eK A (len*an)with
    |some d=>gp C (aP C (fL C ch S) b none) nx (.cells (F.ofList (d++h) 0 .nil) (d++h).length (.grow [])) λa=> .cH a 0 (len+n) an
    |none=>none)) none)) none
 |_=>none
def kG(S:F ac)(nx:Nat)(an n:Nat)(h:List q)(s:q):Option bY:=
 match s with
 | .aw=>j8 C S nx n an h
 | .slice b A len cap=>aQ (Nat.ble (len+n) cap) ((match gU C S b (A+len*an) h with|some B=>some (.cu (.slice b A (len+n) cap) B nx)|none=>none))<|(match fW C S b A (len*an)with
    |some a=>j8 C S nx (len+n) an (a++h)
    |none=>none)
 | .cH b A len c=>aQ (Nat.beq c an) (pj C S nx b A len an n h)<|none
 |_=>none
def oh(S:F ac)(an:Nat)(s:q):Option bY:=
 match s with
 | .aw=>some (.val .aw)
 | .slice b A len cap=>aQ (Nat.ble len cap) (some (.val (.slice b A len cap))) none
 | .cH b A len a=>aQ (Nat.beq a an) (match jH C S b with
   |some n=>aQ (Nat.ble (A+len*an) n) (some (.val (.cH b A len a))) none
   |none=>none) none
 |_=>none
def qO(S:F ac)(nx:Nat)(st:Nat)(s:q)(n:Nat):Option bY:=
 match C.P.underlying st with
 |some (.slice bW)=>(match C.P.info? bW,hW C bW with
  |some i,some z=>aQ (Nat.blt 0 i.size&&Nat.ble i.bytes 65536&&Nat.beq z.cells.length i.size&&Nat.ble n 1048576) (aQ (Nat.beq n 0) (oh C S i.size s)<|kG C S nx i.size n (ew n z.cells) s)<|none
  |_,_=>none)
 |_=>none
def Bl(i:TypeInfo):Bool:=match i.zero with|some z=>Nat.beq z.cells.size i.size|none=>false
def oc(S:F ac)(nx:Nat)(st:Nat)(s x:q):Option bY:=
 match C.P.underlying st with
 |some (.slice bW)=>(match C.P.info? bW with
  |some i=>(match gu C S i.size x with
   |some (n,h)=>aQ (Nat.blt 0 i.size&&Nat.ble i.bytes 65536&&Bl i) ((aQ (Nat.beq n 0) (oh C S i.size s)<|kG C S nx i.size n h s))<|none
   |none=>none)
  |none=>none)
 |_=>none
def q6(S:F ac)(nx:Nat)(b A m:Nat)(h:List q):Option bY:=
 aQ (Nat.beq m 0) (some (.val (.int .i64 0)))<|
 (match gU C S b A h with|some B=>some (.cu (.int .i64 (Int.ofNat m)) B nx)|none=>none)
def qM(S:F ac)(nx:Nat)(st:Nat)(d x:q):Option bY:=
 match C.P.underlying st with
 |some (.slice bW)=>(match d6 C bW with
  |some an=>(match gu C S an x with
   |some (n,h)=>(match d with
    | .aw=>some (.val (.int .i64 0))
    | .slice b A len _=>q6 C S nx b A (min n len) (h.take (min n len*an))
    | .cH b A len _=>q6 C S nx b A (min n len) (h.take (min n len*an))
    |_=>none)
   |none=>none)
  |none=>none)
 |_=>none
def qL(S:F ac)(nx:Nat)(t:Nat)(x:q):Option bY:=
 match C.P.underlying t with
 |some (.slice bW)=>(match d6 C bW,hW C bW with
  |some an,some z=>aQ (Nat.beq z.cells.length an) (match x with
   | .aw=>some (.val (.tuple []))
   | .slice b A len _=>aQ (Nat.beq len 0) (some (.val (.tuple []))) (match gU C S b A (ew len z.cells)with|some S=>some (.cu (.tuple []) S nx)|none=>none)
   | .cH b A len _=>aQ (Nat.beq len 0) (some (.val (.tuple []))) (match gU C S b A (ew len z.cells)with|some S=>some (.cu (.tuple []) S nx)|none=>none)
   |_=>none) none
  |_,_=>none)
 |_=>none
def setObj(S:F ac)(nx:Nat)(r:Nat)(A:ac)(v:q):Option bY:=
 aQ (eS C r) (et (aP C S r (some A)) λS=>some (.cu v S nx))<|none
def pe(S:F ac)(nx:Nat)(t:Nat)(m k v:q):Option bY:=
 match C.P.underlying t,m with
 |some (.map b _), .map r=>(match H C S r with
  |some (.map ak a)=>aQ (fV C 20 b k) (match findKey C S b k ak 0 with
   |some (some (i,_))=>(match hN ak i with
    |some (co,_,born)=>aQ (gJ 20 co k) (setObj C S nx r (.map (ak.set i (k,v,born)) a) undef) none
    |none=>none)
   |some none=>setObj C S nx r (.map (ak++[(k,v,a)]) (a+1)) undef
   |none=>none) none
  |_=>none)
 |_,_=>none
def qN(S:F ac)(nx:Nat)(t:Nat)(m k:q):Option bY:=
 match C.P.underlying t,m with
 |some (.map b _), .map r=>(match H C S r with
  |some (.map ak a)=>aQ (fV C 20 b k) (match findKey C S b k ak 0 with
   |some (some (i,_))=>setObj C S nx r (.map (ak.eraseIdx i) a) (.tuple [])
   |some none=>setObj C S nx r (.map ak a) (.tuple [])
   |none=>none) none
  |_=>none)
 |_,_=>none
def si(x c:q):Bool:=match x,c with
    | .bool a, .bool b=>qZ a b
    | .int k a, .int co b=>f0 k co&&jq a b
    | .str a, .str b=>f2 a b
    | .aw, .aw=>true
    | .bt, .bt=>true
    | .nilIface, .nilIface=>true
    |_,_=>false
def nO:List q->List q->Bool
 |[],[]=>true
 |a::x,b::c=>si a b&&nO x c
 |_,_=>false
def known(f:Nat)(args:List q):List (Nat×List q×q)->Option q
 |[]=>none
 |(g,a,v)::h=>aQ (Nat.beq f g&&nO args a) (some v)<|known f args h
def is(f:Nat)(args:List q):Option bY:=
 match C.dv f args with
 |some v=>some (.known f args v)
 |none=>(match C.P.funcs[f]? with
  |some fn=>(match fn.body with
   |some _=>some (.enter f args)
   |none=>none)
  |none=>none)
def l0(fn:Fn)(a args:List q):Option bY:=
 match fn with
 | .func f=>is C f (args++a)
 | .yield h=>some (.round h args)
 |_=>none
def od(S:F ac)(t:Nat)(v:q)(name:String)(args:List q):Option bY:=
 match C.P.info? t with
 |some i=>(match i.methods.find? (·.name==name)with
  |some m=>aQ m.path.isEmpty (match m.func,C.P.underlying t with
   |some (f,true),some (.pointer _)=>is C f (v::args)
   |some (f,false),some (.pointer j)=>(match iM C S j v with|some x=>is C f (x::args)|none=>none)
   |some (f,false),some _=>is C f (v::args)
   |_,_=>none) none
  |none=>none)
 |none=>none
def sz(S:F ac)(nx s:Nat)(a v:q):Option bY:=
 match a with
 | .ptr b A=>aQ (Nat.beq v.cells.length s&&Nat.blt 0 s) ((match gU C S b A v.cells with|some B=>some (.cu undef B nx)|none=>none))<|none
 |_=>none
def oF(t:Nat)(m k x:Operand)(S:F ac)(nx:Nat)(ad:Operand->Option q):Option bY:=
 match ad m,ad k,ad x with
 |some m,some k,some v=>pe C S nx t m k v
 |_,_,_=>none
def pK(t:Nat)(m k:Operand)(S:F ac)(nx:Nat)(ad:Operand->Option q):Option bY:=
 match C.P.underlying t,ad m,ad k with
 |some (.map b c),some (.map r),some k=>(match H C S r with
  |some (.map ak a)=>aQ (fV C 20 b k) (match findKey C S b k ak 0 with
   |some (some (i,v))=>(match hN ak i with
    |some (co,d,born)=>aQ (gJ 20 co k) (setObj C S nx r (.map (ak.set i (k,d,born)) a) (.tuple [v, .int .i64 (Int.ofNat born)])) none
    |none=>none)
   |some none=>(match hW C c with
    |some z=>setObj C S nx r (.map (ak++[(k,z,a)]) (a+1)) (.tuple [z, .int .i64 (Int.ofNat a)])
    |none=>none)
   |none=>none) none
  |_=>none)
 |_,_,_=>none
def pH(m s x:Operand)(S:F ac)(nx:Nat)(ad:Operand->Option q):Option bY:=
 match ad m,ad s,ad x with
 |some (.map r),some (.int _ (.ofNat born)),some v=>(match H C S r with
  |some (.map ak a)=>(match ak.findIdx? (λj=>Nat.beq j.2.2 born)with
   |some i=>(match hN ak i with
    |some (k,_,b)=>setObj C S nx r (.map (ak.set i (k,v,b)) a) undef
    |none=>none)
   |none=>none)
  |_=>none)
 |_,_,_=>none
def pJ(t:Nat)(h c:Operand)(S:F ac)(nx:Nat)(ad:Operand->Option q):Option bY:=
 match C.P.underlying t,ad h,ad c with
 |some (.slice bW),some h,some c=>(match f1 h,f1 c,C.P.info? bW,hW C bW with
  |some h,some c,some i,some z=>aQ (Nat.ble h c&&Nat.ble c 1048576&&Nat.ble i.bytes 65536&&Nat.blt 0 i.size&&Nat.beq z.cells.length i.size) (gp C S nx (.cells (F.ofList (ew c z.cells) 0 .nil) (c*i.size) .own) λb=> .slice b 0 h c)<|none
  |_,_,_,_=>none)
 |_,_,_=>none
def pI(t:Nat)(r:Operand)(S:F ac)(nx:Nat)(ad:Operand->Option q):Option bY:=
 match C.P.underlying t,ad r with
 |some (.map _ _),some (.int _ _)=>gp C S nx (.map [] 0) λb=> .map b
 |_,_=>none
def pN(s d:Nat)(x:Operand)(S:F ac)(nx:Nat)(ad:Operand->Option q):Option bY:=
 match C.P.underlying s,C.P.underlying d,ad x with
 |some .string,some (.slice j),some (.str h)=>(match C.P.underlying j with
  |some (.int .u8)=>j8 C S nx h.length 1 (h.map λn=>q.int .u8 (Int.ofNat n))
  |_=>none)
 |some (.slice _),some (.slice j),some (.slice b A len cap)=>(match C.P.underlying j with
  |some (.int .u8)=>aQ (Nat.beq s d&&eS C b) (match H C S b with
   |some (.cells c n .own)=>et (aP C S b (some (.cells c n .marked))) λS=>some (.cu (.slice b A len cap) S nx)
   |some (.cells _ _ .marked)=>some (.val (.slice b A len cap))
   |_=>none) none
  |_=>none)
 |_,_,_=>none
def pM(t:Nat)(x:Operand)(S:F ac)(nx:Nat)(ad:Operand->Option q):Option bY:=
 match C.P.underlying t,ad x with
 |some .string,some (.str s)=>gp C S nx (.kp s 0) λb=> .ptr b 0
 |some (.map _ _),some .fq=>gp C S nx (.eT none 0 [] 0) λb=> .ptr b 0
 |some (.map _ _),some (.map r)=>(match H C S r with
  |some (.map _ a)=>gp C S nx (.eT (some r) a [] a) λb=> .ptr b 0
  |_=>none)
 |_,_=>none
def h9(n:Nat):List Nat->Bool
 |[]=>false
 |a::h=>Nat.beq n a||h9 n h
def dK(seen:List Nat):List (q×q×Nat)->List (q×q×Nat)
 |[]=>[]
 |j::ak=>aQ (h9 j.2.2 seen) (dK seen ak) (j::dK seen ak)
def l1(a:Nat):List (q×q×Nat)->Bool
 |[]=>true
 |j::ak=>Nat.blt j.2.2 a&&l1 a ak
def kF(a:Nat):List (q×q×Nat)->Bool
 |[]=>false
 |j::ak=>Nat.blt j.2.2 a||kF a ak
def rz(C:ax)(S:F ac)(r m c a:Nat)(seen:List Nat):List (q×q×Nat)->List (q×F ac)
 |[]=>[]
 |(k,v,b)::h=>(.tuple [.bool true,k,v],aP C S r (some (.eT (some m) c (seen++[b]) a)))::rz C S r m c a seen h
def om:List (q×q×Nat)->List Nat->Bool
 |[],[]=>true
 |j::ak,b::bL=>Nat.beq j.2.2 b&&om ak bL
 |_,_=>false
def q5(C:ax)(S:F ac)(r:Nat)(A:Option Nat->ac):List (q×q×Nat)->List (q×F ac)
 |[]=>[]
 |(k,v,b)::h=>(.tuple [.bool true,k,v],aP C S r (some (A (some b))))::q5 C S r A h
def pL(i:Operand)(g:Bool)(S:F ac)(nx:Nat)(ad:Operand->Option q):Option bY:=
 match ad i with
 |some (.ptr r 0)=>aQ (eS C r) (match H C S r,g with
  |some (.kp s pos),true=>aQ (Nat.blt pos s.length) (match hN s pos with
    |some c=>aQ (Nat.blt c 128) (setObj C S nx r (.kp s (pos+1)) (.tuple [.bool true, .int .i64 (Int.ofNat pos), .int .i32 (Int.ofNat c)])) none
    |none=>none)
   (some (.val (.tuple [.bool false])))
  |some (.eT none _ _ _),false=>some (.val (.tuple [.bool false]))
  |some (.eT (some m) a seen f),false=>(match H C S m with
   |some (.map ak d)=>(match dK seen ak with
    |[]=>aQ (l1 a ak) (aQ (kF f ak||seen.isEmpty||ak.isEmpty) (some (.val (.tuple [.bool false]))) none) none
    |[(k,v,b)]=>aQ (l1 a ak&&kF f ak) (setObj C S nx r (.eT (some m) a (seen++[b]) d) (.tuple [.bool true,k,v])) none
    |h=>aQ (l1 a ak&&kF f ak) (some (.fork (rz C S r m a d seen h))) none)
   |_=>none)
  |some (.jy m a n bL st _),false=>(match H C S m with
   |some (.map ak d)=>aQ ((om ak bL&&Nat.beq st d)&&(l1 a ak&&kF st ak)) (match n with
    |0=>some (.val (.tuple [.bool false]))
    |n+1=>some (.fork ((.tuple [.bool false],S)::q5 C S r (.jy m a n bL st) ak))) none
   |_=>none)
  |_,_=>none) none
 |_=>none
def tZ(x:Operand)(_:F ac)(_:Nat)(ad:Operand->Option q):Option bY:=
 match ad x with|some (.iface t v)=>some (.panic (.iface t v))|_=>none
def tY(c:Call)(_:F ac)(_:Nat)(ad:Operand->Option q):Option bY:=
 match c with
 |⟨.value f,args,_⟩=>(match ad f,hj ad args.toList with
  |some (.func fn first b),some a=>some (.defer ⟨.fn fn b,first++a⟩)
  |_,_=>none)
 |_=>none
def pG(b:Builtin)(args:Array Operand)(bu:Array TypeId)(S:F ac)(nx:Nat)(ad:Operand->Option q):Option bY:=
 match b,hj ad args.toList with
 | .append,some [s,x]=>(match bu.toList with
   |st::d4::_=>(match C.P.underlying d4 with
    |some (.int _)=>(match f1 x with|some n=>qO C S nx st s n|none=>none)
    |some (.slice _)=>oc C S nx st s x
    |some .string=>oc C S nx st s x
    |_=>none)
   |_=>none)
 | .copy,some [d,x]=>(match bu.toList with
   |st::_=>qM C S nx st d x
   |_=>none)
 | .recover,some []=>some .recover
 | .clear,some [x]=>(match bu.toList with
   |t::_=>qL C S nx t x
   |_=>none)
 | .delete,some [m,k]=>(match bu.toList with
   |t::_=>qN C S nx t m k
   |_=>none)
 |_,_=>none
def nq(c:Call)(S:F ac)(nx:Nat)(ad:Operand->Option q):Option bY:=
 match c with
 |⟨.value f,args,_⟩=>(match ad f,hj ad args.toList with
  |some (.func fn first d),some a=>l0 C fn d (first++a)
  |_,_=>none)
 |⟨.builtin b,args,bu⟩=>pG C b args bu S nx ad
 |⟨.invoke r name,args,_⟩=>(match ad r,hj ad args.toList with
  |some (.iface t v),some a=>od C S t v name a
  |_,_=>none)
def ge(A:Op):ax->F ac->Nat->(Operand->Option q)->Option bY:=
 match A with
 | .mapUpdate t m k x=>λC=>oF C t m k x
 | .insert t m k x=>λC=>oF C t m k x
 | .mapEntry t m k=>λC=>pK C t m k
 | .entryStore _ m s x=>λC=>pH C m s x
 | .makeSlice t h c=>λC=>pJ C t h c
 | .makeMap t (some r)=>λC=>pI C t r
 | .convert s d x=>λC=>pN C s d x
 | .range t x=>λC=>pM C t x
 | .next b a=>λC=>pL C b a
 | .panic x=>λ_=>tZ x
 | .defer c=>λ_=>tY c
 | .call c=>λC=>nq C c
 |_=>λ_ _ _ _=>none
end ab
def fd(x:eQ):List (Nat×q)->F q->Option q:=
 match x with
 | .v E=>λV _=>cd V E
 | .t n=>λ_ y=>y.get n
 | .c a=>λ_ _=>some a
def mc(V:List (Nat×q))(y:F q):List eQ->Option (List q)
 |[]=>some []
 |x::h=>match fd x V y with
  |none=>none
  |some v=>match mc V y h with
   |none=>none
   |some r=>some (v::r)
def eg(a1:List (Nat×Nat))(V:List (Nat×q))(y:F q)(A:Operand):Option q:=match A with
 | .tmp t=>(match cd a1 t with|some E=>cd V E|none=>y.get t)
 | .const v=>nG v
 | .global g=>some (.ptr g 0)
 | .func f=>some (.func (.func f) [] [])
def ao(d:Nat)(v:q):Option q:=match v with| .ptr b A=>some (.ptr b (A+d))|_=>none
def sJ(c:q)(a b:eQ)(V:List (Nat×q))(y:F q):Option q:=match c with
 | .bool c=>aQ c (fd a V y) (fd b V y)
 |_=>none
def sI(n an:Nat)(x:q)(i:Nat):Option q:=match x with| .ptr b A=>aQ (Nat.blt i n) (some (.ptr b (A+i*an))) none|_=>none
def mP(an:Nat)(x:q)(i:Nat):Option q:=match x with
 | .slice b A len _=>aQ (Nat.blt i len) (some (.ptr b (A+i*an))) none
 | .cH b A len _=>aQ (Nat.blt i len) (some (.ptr b (A+i*an))) none
 |_=>none
def aY(v:q):Option q:=match v with
 | .ptr b A=>some (.ptr b A)
 | .func fn a b=>(match fn with| .func f=>some (.func (.func f) a b)| .yield f=>some (.func (.yield f) a b)|_=>none)
 | .iface t v=>some (.iface t v)
 |_=>none
def dE(i:Nat)(v:q):Option q:=match v with| .tuple aB=>hN aB i|_=>none
def di(A:eB):ax->F ac->List (Nat×q)->F q->Option q:=
 match A with
 | .nB x=>λ_ _=>fd x
 | .pick c a b=>λ_ _ V y=>(match fd c V y with|some c=>sJ c a b V y|none=>none)
 | .cW a=>λC S V y=>(match fd a V y with|some a=>W C S a|none=>none)
 | .ms n a=>λC S V y=>(match fd a V y with|some a=>br C S n a|none=>none)
 | .off d x=>λ_ _ V y=>(match fd x V y with|some a=>ao d a|none=>none)
 | .mn n an x i=>λ_ _ V y=>(match fd x V y with|some a=>(match fd i V y with|some i=>(match f1 i with|some i=>sI n an a i|none=>none)|none=>none)|none=>none)
 | .mo an x i=>λ_ _ V y=>(match fd x V y with|some a=>(match fd i V y with|some i=>(match f1 i with|some i=>mP an a i|none=>none)|none=>none)|none=>none)
 | .nE x=>λ_ _ V y=>(match fd x V y with|some a=>aY a|none=>none)
 | .pP op x f=>λ_ _ V y=>(match fd x V y with|some a=>(match fd f V y with|some b=>ag op a b|none=>none)|none=>none)
 | .ext i x=>λ_ _ V y=>(match fd x V y with|some a=>dE i a|none=>none)
 | .dT a1 A=>λC S V y=>gx A C S (eg a1 V y)
 |_=>λ_ _ _ _=>none
def gD(A:eB):ax->Nat->List (Nat×q)->F q->Option (q×ac):=
 match A with
 | .make a1 A=>λC b V y=>hD A C (eg a1 V y) b
 |_=>λ_ _ _ _=>none
def dN(A:eB):ax->F ac->Nat->List (Nat×q)->F q->Option bY:=
 match A with
 | .st n a v=>λC S nx V y=>(match fd a V y with|some a=>(match fd v V y with|some v=>sz C S nx n a v|none=>none)|none=>none)
 | .call f args=>λC _ _ V y=>(match mc V y args with|some b=>is C f b|none=>none)
 | .cy a1 A=>λC S nx V y=>ge A C S nx (eg a1 V y)
 |_=>λ_ _ _ _ _=>none
inductive Br where|dT|make|cy
def fZ(A:eB):Br:=match A with
 | .st .. => .cy| .call .. => .cy| .cy .. => .cy
 | .make .. => .make
 |_=> .dT
def rZ(A:eB)(C:ax)(S:F ac)(nx:Nat)(V:List (Nat×q))(y:F q):Option bY:=
 hG nx λnx=>(match gD A C nx V y with|some (v,bJ)=>et (aP C S nx (some bJ)) λS=>some (.cu v S (nx+1))|none=>none)
def cB(m i:Nat):Bool:=Nat.beq (Nat.mod (Nat.div m (Nat.pow 2 i)) 2) 1
def f4(a1:List (Nat×Nat))(A:Operand):Option eQ:=match A with
 | .tmp t=>(match cd a1 t with|some E=>some (.v E)|none=>some (.t t))
 | .const v=>(match nG v with|some a=>some (.c a)|none=>none)
 | .global g=>some (.c (.ptr g 0))
 | .func f=>some (.c (.func (.func f) [] []))
def o7(a1:List (Nat×Nat)):List Operand->Option (List eQ)
 |[]=>some []
 |x::h=>match f4 a1 x,o7 a1 h with|some v,some r=>some (v::r)|_,_=>none
def GW(C:ax)(s d:Nat):Bool:=match C.P.underlying s,C.P.underlying d with
 |some .string,some (.slice _)=>true
 |some (.slice _),some (.slice _)=>true
 |_,_=>false
def GU(C:ax)(t:Nat):Bool:=match C.P.underlying t with|some (.int _)=>true|_=>false
def fy(C:ax)(a1:List (Nat×Nat))(A:Op):Option eB:=
 match A with
 | .move x| .assign x=>(match f4 a1 x with|some x=>some (.nB x)|none=>none)
 | .pick c a b=>(match f4 a1 c,f4 a1 a,f4 a1 b with|some c,some a,some b=>some (.pick c a b)|_,_,_=>none)
 | .load t a=>(match f4 a1 a,nr C t,d6 C t with
   |some a,some true,some s=>some (.ms s a)
   |some a,some false,_=>some (.cW a)
   |_,_,_=>none)
 | .fieldAddr s x f=>(match C.P.underlying s,f4 a1 x with
   |some (.struct G),some x=>(match hN G.toList f with
    |some v=>(match d6 C v.type with|some z=>aQ (Nat.beq z 0) (none)<|some (.off v.offset x)|none=>none)
    |none=>none)
   |_,_=>none)
 | .indexAddr t x i=>(match C.P.underlying t,f4 a1 x,f4 a1 i with
   |some (.array n bW),some x,some i=>(match d6 C bW with|some an=>some (.mn n an x i)|none=>none)
   |some (.slice bW),some x,some i=>(match d6 C bW with|some an=>some (.mo an x i)|none=>none)
   |_,_,_=>none)
 | .nilCheck x=>(match f4 a1 x with|some x=>some (.nE x)|none=>none)
 | .binOp op t x g O=>aQ (GU C t) ((match f4 a1 x,f4 a1 g with|some x,some g=>some (.pP op x g)|_,_=>none))<|some (.dT a1 (.binOp op t x g O))
 | .extract x i=>(match f4 a1 x with|some x=>some (.ext i x)|none=>none)
 | .store t a x=>(match f4 a1 a,f4 a1 x,d6 C t with|some a,some x,some s=>some (.st s a x)|_,_,_=>none)
 | .call ⟨.value (.func f),args,bu⟩=>(match o7 a1 args.toList with|some w=>some (.call f w)|none=>none)
 | .call ⟨.builtin b,args,bu⟩=>(match b with
   | .len| .cap| .max| .min=>some (.dT a1 (.call ⟨.builtin b,args,bu⟩))
   |_=>some (.cy a1 (.call ⟨.builtin b,args,bu⟩)))
 | .call c=>some (.cy a1 (.call c))
 | .convert s d x=>aQ (GW C s d) (some (.cy a1 (.convert s d x)))<|some (.dT a1 (.convert s d x))
 | .alloc t=>some (.make a1 (.alloc t))
 | .box t x=>some (.make a1 (.box t x))
 | .buildSlice t h p=>some (.make a1 (.buildSlice t h p))
 | .makeMap t none=>some (.make a1 (.makeMap t none))
 | .makeMap t (some r)=>some (.cy a1 (.makeMap t (some r)))
 | .mapUpdate t m k x=>some (.cy a1 (.mapUpdate t m k x))
 | .insert t m k x=>some (.cy a1 (.insert t m k x))
 | .mapEntry t m k=>some (.cy a1 (.mapEntry t m k))
 | .entryStore t m s x=>some (.cy a1 (.entryStore t m s x))
 | .makeSlice t h c=>some (.cy a1 (.makeSlice t h c))
 | .range t x=>some (.cy a1 (.range t x))
 | .next i s=>some (.cy a1 (.next i s))
 | .panic x=>some (.cy a1 (.panic x))
 | .defer c=>some (.cy a1 (.defer c))
 |A=>some (.dT a1 A)
def j4(E:Nat):List (Nat×Nat)->Option Nat
 |[]=>none
 |(t,i)::h=>aQ (Nat.beq i E) (some t)<|j4 E h
def pq(wr:List (Nat×Nat))(g:Option (Nat×Bool)):Option (Option (Nat×Bool)):=match g with
 |none=>some none
 |some (E,b)=>(match j4 E wr with
  |some t=>(match cd wr t with
   |some a=>aQ (Nat.beq E a) (some (some (E,b)))<|none
   |none=>none)
  |none=>none)
def kE(A:Oper)(i:Nat)(wr:List (Nat×Nat)):List (Nat×Nat):=match A.dst with|some d=>(d,i)::wr|none=>wr
def rh(n:Nat)(A:Oper):Bool:=match A.dst with|some d=>Nat.blt d n|none=>true
def lr(C:ax)(aa:Nat)(a1:List (Nat×Nat))(A:Operand):Bool:=match A with
 | .tmp t=>(match cd a1 t with|some _=>true|none=>cB aa t)
 | .global g=>Nat.blt g C.cI
 |_=>true
def nI(C:ax)(aa:Nat)(a1:List (Nat×Nat)):List Operand->Bool
 |[]=>true
 |x::h=>lr C aa a1 x&&nI C aa a1 h
def iv(C:ax)(n aa:Nat):List Oper->Nat->List (Nat×Nat)->Option (List cA)
 |[],_,_=>some []
 |A::h,i,wr=>hG i λi=>match pq wr A.guard,fy C wr A.op with
  |some g,some op=>aQ (rh n A&&nI C aa wr A.op.operands.toList) (match iv C n aa h (i+1) (kE A i wr)with|some r=>some (⟨i,g,op⟩::r)|none=>none) none
  |_,_=>none
def ff(aa:Nat):List Oper->Nat->List (Nat×Nat)
 |[],_=>[]
 |A::h,i=>match A.dst with
  |some d=>aQ (cB aa d) ((i,d)::ff aa h (i+1))<|ff aa h (i+1)
  |none=>ff aa h (i+1)
def dstsOf:List Oper->List Nat
 |[]=>[]
 |A::h=>match A.dst with|some d=>d::dstsOf h|none=>dstsOf h
structure sP where
 rest:List cA
 fin:List (Nat×Nat)
def qd(C:ax)(n:Nat)(ab:Array Oper)(aa:Nat):Option sP:=
 match iv C n aa ab.toList 0 []with
 |some cs=>some ⟨cs,ff aa ab.toList 0⟩
 |none=>none
def oU(A:Operand)(m:Nat):Nat:=match A with| .tmp t=>Nat.lor m (Nat.pow 2 t)|_=>m
def oV(h:List Operand):Nat:=h.foldr oU 0
def pw(A:Oper):Nat:=match A.dst with|some d=>Nat.pow 2 d|none=>0
def rI(wr:List (Nat×Nat))(g:Option (Nat×Bool)):Nat:=match g with
 |none=>0
 |some (E,_)=>(match j4 E wr with|some t=>Nat.pow 2 t|none=>0)
def ng(a:List (Nat×Nat))(j:Edge)(m:Nat):Nat:=
 aQ (cB m j.on) (m)<|aQ (Region.binds .any j) ((match cd a j.on with|some k=>Nat.lor (Nat.lor m k) (Nat.pow 2 j.on)|none=>m))<|m
structure cX where
 i:Nat
 m:Nat
 r:Nat
 w:Nat
def my:List Oper->Nat->List (Nat×Nat)->List (Nat×Nat)->List cX
 |[],_,_,_=>[]
 |A::h,i,wr,a=>hG i λi=>hG (A.after.toList.foldr (ng a) 0) λm=>
  ⟨i,m,Nat.lor (oV A.op.operands.toList) (rI wr A.guard),pw A⟩::my h (i+1) (kE A i wr) ((i,m)::a)
def r9(a b:cX):Bool:=
 cB b.m a.i||(Nat.beq (Nat.land a.w (Nat.lor b.r b.w)) 0&&Nat.beq (Nat.land b.w a.r) 0)
def sa(a:cX):List cX->Bool
 |[]=>true
 |b::h=>r9 a b&&sa a h
def qj:List cX->Bool
 |[]=>true
 |a::h=>sa a h&&qj h
def pO:List cX->Bool
 |[]=>true
 |a::h=>(match h with|[]=>true|b::_=>cB b.m a.i)&&pO h
def nH:List Oper->Nat->Bool
 |[],_=>true
 |A::h,i=>A.after.toList.all (λj=> !Region.binds .any j||Nat.blt j.on i)&&nH h (i+1)
def jj(m:Nat):List cX->Nat
 |[]=>0
 |e::h=>aQ (cB m e.i) (Nat.succ (jj m h))<|jj m h
def mm(i:Nat):List cX->Nat
 |[]=>0
 |e::h=>aQ (cB e.m i) (0)<|Nat.succ (mm i h)
structure hd where
 x:cA
 aC:Nat
 ai:Nat
def gl(A:eB):Bool:=match fZ A with| .cy=>true|_=>false
def oH:List cX->List cA->List (cX×cA)
 |p::bE,c::cs=>aQ (gl c.op) ((p,c)::oH bE cs)<|oH bE cs
 |_,_=>[]
def oP(a:List cX):List cX->List cA->List hd
 |p::bE,c::cs=>aQ (gl c.op) (oP a bE cs)<|⟨c,jj p.m a,mm p.i a⟩::oP a bE cs
 |_,_=>[]
def iN(k:Nat):List hd->List cA
 |[]=>[]
 |h::d3=>aQ (Nat.beq h.aC k) (h.x::iN k d3)<|iN k d3
def nS(k:Nat):List hd->List cA
 |[]=>[]
 |h::d3=>aQ (Nat.blt h.aC k&&Nat.ble k h.ai&&mK h.x.op) (h.x::nS k d3)<|nS k d3
def ll(d3:List hd):Nat->List (cX×cA)->List jS
 |k,[]=>[⟨iN k d3,nS k d3,none⟩]
 |k,(_,a)::h=>⟨iN k d3,nS k d3,some a⟩::ll d3 (k+1) h
def hH:List (cX×cA)->List cX
 |[]=>[]
 |(p,_)::h=>p::hH h
structure sO where
 fi:List jS
 fin:List (Nat×Nat)
def qa(C:ax)(n:Nat)(ab:Array Oper)(aa:Nat):Option sO:=
 match iv C n aa ab.toList 0 []with
 |none=>none
 |some cs=>(λall=>(λa=>aQ (nH ab.toList 0&&qj all&&pO (hH a)) (some ⟨ll (oP (hH a) all cs) 0 a,ff aa ab.toList 0⟩)<|none) (oH all cs)) (my ab.toList 0 [] [])
def xJ:List Oper->Nat->Nat->Nat
 |[],_,r=>r
 |A::h,a,r=>xJ h (Nat.lor a (pw A)) ((λrd=>Nat.lor r (Nat.xor rd (Nat.land rd a))) (oV A.op.operands.toList))
def fp:Code->Nat
 | .region _ ab _=>xJ ab.toList 0 0
 | .seq a b=>Nat.lor (fp a) (fp b)
 | .cond c a b=>oU c (Nat.lor (fp a) (fp b))
 | .block _ b=>fp b
 | .loop b=>fp b
 | .scope b=>fp b
 | .rangeFunc f _ a b=>oU f (Nat.lor (fp a) (fp b))
 |_=>0
def hQ(h:List ResultVar):Nat:=h.foldr (λx r=>match x with| .tmp t=>Nat.lor r (Nat.pow 2 t)| .cell a _=>Nat.lor r (Nat.pow 2 a)) 0
def fA(C:ax)(aa:Nat):Code->Bool
 | .seq a b=>fA C aa a&&fA C aa b
 | .cond c a b=>lr C aa [] c&&(fA C aa a&&fA C aa b)
 | .block _ b=>fA C aa b
 | .loop b=>fA C aa b
 | .scope b=>fA C aa b
 | .rangeFunc f _ a b=>lr C aa [] f&&(fA C aa a&&fA C aa b)
 |_=>true
def lv(aa:Nat):List ResultVar->Bool
 |[]=>true
 | .tmp t::h=>cB aa t&&lv aa h
 | .cell a _::h=>cB aa a&&lv aa h
end
end Go.Q
@[match_pattern]abbrev Go.Q.q.Z(x:Int):Go.Q.q:=.int .i64 x
@[match_pattern]abbrev Go.Q.q.zF:Go.Q.q:=.bool false
@[match_pattern]abbrev Go.Q.q.zT:Go.Q.q:=.bool true
namespace Go.Q
@[simp] def cO{α:Type _}(a b:α):aQ true a b=a:=rfl
@[simp] def fz{α:Type _}(a b:α):aQ false a b=b:=rfl
def cK{α:Type _}(c:Bool)(a b:α):aQ c a b=if c=true then a else b:=by cases c<;>rfl
def d2{α:Type _}(x c:Nat)(a b:α):aQ (Nat.beq x c) a b=if x=c then a else b:=by
 rw[cK];by_cases e:x=c
 ·rw[Zv e,Zv (Nat.beq_eq▸e)]
 ·rw[Zj e,Zj (λj=>e (Zh j))]
@[simp] def ce{α:Type _}(c:Bool)(a:Option α)(v:α):aQ c a none=some v↔c=true/\a=some v:=by cases c<;>simp
@[simp] def fX{a:Type}(n:Nat)(k:Nat->a):hG n k=k n:=by cases n<;>rfl
@[simp] def ry{a:Type}(n:Int)(k:Int->a):tR n k=k n:=by
  cases n with
  |ofNat m=>exact fX m λm=>k (.ofNat m)
  |negSucc m=>exact fX m λm=>k (.negSucc m)
@[simp] def dB{α a:Type}(t:F α)(k:F α->a):et t k=k t:=by cases t<;>rfl
@[simp] def El{α:Type}(E:Nat):cd ([]:List (Nat×α)) E=none:=rfl
def h3{α:Type}(a:Nat)(b:α)(h:List (Nat×α))(E:Nat):cd ((a,b)::h) E=if a=E then some b else cd h E:=by
 show aQ (Nat.beq a E) (some b) (cd h E)=_
 rw[d2]
@[simp] def ic{α:Type}(h:List α):∀i,hN h i=h[i]? :=by
  induction h with
  |nil=>intro i;rfl
  |cons a h U=>intro i;cases i with
   |zero=>rfl
   |succ E=>exact U E
namespace F
variable{α:Type}
@[simp] def LL(i:Nat):(F.nil:F α).get i=none:=rfl
@[simp] def LM(v:Option α)(h r:F α):(F.node v h r).get 0=v:=rfl
def mh(v:Option α)(h r:F α)(E:Nat):(F.node v h r).get (E+1)=if E%2=0 then h.get (E/2)else r.get (E/2):=by
 show aQ (Nat.beq (E%2) 0) (h.get (E/2)) (r.get (E/2))=_
 rw[d2]
def Kd(f:Nat)(a:Option α):ih (f+1) F.nil 0 a= .node a .nil .nil:=rfl
def Kc(f E:Nat)(a:Option α):ih (f+1) F.nil (E+1) a=
 if E%2=0 then .node none (ih f .nil (E/2) a) .nil else .node none .nil (ih f .nil (E/2) a):=by
 show aQ (Nat.beq (E%2) 0) (et (ih f .nil (E/2) a) λb=>F.node none b F.nil) (et (ih f .nil (E/2) a) λc=>F.node none F.nil c)=_
 rw[d2,dB,dB]
def Kf(f:Nat)(v:Option α)(h r:F α)(a:Option α):ih (f+1) (.node v h r) 0 a= .node a h r:=rfl
def Ke(f E:Nat)(v:Option α)(h r:F α)(a:Option α):ih (f+1) (.node v h r) (E+1) a=
 if E%2=0 then .node v (ih f h (E/2) a) r else .node v h (ih f r (E/2) a):=by
 show aQ (Nat.beq (E%2) 0) (et (ih f h (E/2) a) λb=>F.node v b r) (et (ih f r (E/2) a) λc=>F.node v h c)=_
 rw[d2,dB,dB]
def Gt:∀(f:Nat) (t:F α) (i E:Nat) (a:Option α),i<f->(ih f t i a).get E=if i=E then a else t.get E:=by
 intro f
 induction f with
 |zero=>intro t i E a e;omega
 |succ f U=>
  intro t i E a e
  cases i with
  |zero=>
   cases t with
   |nil=>rw[Kd];cases E with
    |zero=>simp
    |succ E=>rw[mh];simp
   |node v h r=>rw[Kf];cases E with
    |zero=>simp
    |succ E=>rw[mh,mh];simp
  |succ i=>
   have ai:i/2<f:=Zo
   cases t with
   |nil=>
    rw[Kc]
    cases E with
    |zero=>split<;>simp
    |succ E=>
     by_cases j:i%2=0
     ·rw[Zv j,mh]
      by_cases b:E%2=0
      ·rw[Zv b,U _ _ _ _ ai]
       by_cases J:i/2=E/2
       ·rw[Zv J,Zv Zo]
       ·rw[Zj J,Zj Zo];rfl
      ·rw[Zj b,Zj Zo];rfl
     ·rw[Zj j,mh]
      by_cases b:E%2=0
      ·rw[Zv b,Zj Zo];rfl
      ·rw[Zj b,U _ _ _ _ ai]
       by_cases J:i/2=E/2
       ·rw[Zv J,Zv Zo]
       ·rw[Zj J,Zj Zo];rfl
   |node v h r=>
    rw[Ke]
    cases E with
    |zero=>split<;>simp
    |succ E=>
     rw[mh v h r]
     by_cases j:i%2=0
     ·rw[Zv j,mh]
      by_cases b:E%2=0
      ·rw[Zv b,Zv b,U _ _ _ _ ai]
       by_cases J:i/2=E/2
       ·rw[Zv J,Zv Zo]
       ·rw[Zj J,Zj Zo]
      ·rw[Zj b,Zj b,Zj Zo]
     ·rw[Zj j,mh]
      by_cases b:E%2=0
      ·rw[Zv b,Zv b,Zj Zo]
      ·rw[Zj b,Zj b,U _ _ _ _ ai]
       by_cases J:i/2=E/2
       ·rw[Zv J,Zv Zo]
       ·rw[Zj J,Zj Zo]
def gj(t:F α)(i E:Nat)(a:Option α):(t.set i a).get E=if i=E then a else t.get E:=Gt _ _ _ _ _ Zo
def rD(h:List α):∀(i:Nat) (t:F α) (E:Nat),(ofList h i t).get E=if i<=E/\E<i+h.length then h[E-i]? else t.get E:=by
 induction h with
 |nil=>intro i t E;simp only[ofList,Z0];rw[Zj Zo]
 |cons a h U=>
  intro i t E
  simp only[ofList,dB]
  rw[U,gj]
  by_cases j:i=E
  ·subst j;rw[Zj Zo,Zv rfl,Zv Zs];simp
  ·rw[Zj j]
   by_cases J:i+1<=E/\E<i+1+h.length
   ·rw[Zv J,Zv Zx]
    have:E-i=(E-(i+1))+1:=Zo
    rw[this,ZN]
   ·rw[Zj J,Zj Zx]
def rC(t:F α):∀(n A:Nat) (h:List α),t.eK A n=some h->h.length=n/\∀i,i<n->t.get (A+i)=h[i]? :=by
 intro n
 induction n with
 |zero=>intro A h e;simp[eK]at e;subst e;simp
 |succ n U=>
  intro A h e
  simp only[eK]at e
  cases b:t.get A with
  |none=>simp[b]at e
  |some a=>
   simp only[b]at e
   cases K:eK t (A+1) n with
   |none=>simp[K]at e
   |some r=>
    simp only[K,Zu]at e
    subst e
    obtain⟨c,d⟩:=U _ _ K
    refine⟨by simp[c],λi ai=> ?_⟩
    cases i with
    |zero=>simpa using b
    |succ i=>rw[show A+(i+1)=A+1+i by omega,d i Zo];simp
end F
def vk(h:List q):∀(c:F q) (A:Nat),cL c A h=F.ofList h A c:=by
 induction h with
 |nil=>intro c A;rfl
 |cons v h U=>intro c A;simp only[cL,F.ofList,dB];exact U _ _
structure fS where
 a8:Nat
 b3:Nat
 room:Nat
 deriving Inhabited
abbrev bC:=Nat->fS
def f7(u:bC):Fn->Fn
 | .yield h=> .yield (u h).a8
 |f=>f
def cF(s:List Nat):ByteArray:=⟨(s.map UInt8.ofNat).toArray⟩
mutual
def af(u:bC):q->Value
 | .bool b=> .bool b
 | .int k n=> .int k n
 | .str s=> .string (cF s)
 | .ptr b A=> .pointer (some ⟨(u b).a8,(u b).b3+A,none⟩)
 | .bt=> .pointer none
 | .slice b A len cap=> .slice (some ⟨(u b).a8,(u b).b3+A,none⟩) len cap
 | .cH b A len an=> .slice (some ⟨(u b).a8,(u b).b3+A,none⟩) len (((u b).room-A)/an)
 | .aw=> .slice none 0 0
 | .map m=> .map (some (u m).a8)
 | .fq=> .map none
 | .func fn a b=> .func (f7 u fn) (aR u a).toArray (aR u b).toArray
 | .nilFunc=> .nilFunc
 | .iface t v=> .iface t (af u v)
 | .nilIface=> .nilIface
 | .agg cs=> .agg (aR u cs).toArray
 | .tuple aB=> .tuple (aR u aB).toArray
def aR(u:bC):List q->List Value
 |[]=>[]
 |v::h=>af u v::aR u h
end
def hh(u:bC)(h:List q):aR u h=h.map (af u):=by
 induction h with
 |nil=>rfl
 |cons v h U=>simp[aR,U]
def rF(D:Nat->Prop):Fn->Prop
 | .yield h=>D h
 | .func _=>True
 |_=>False
mutual
def ba(D:Nat->Prop):q->Prop
 | .bool _=>True
 | .int _ _=>True
 | .str s=>∀x∈s,x<256
 | .ptr b _=>D b
 | .bt=>True
 | .slice b _ _ _=>D b
 | .cH b _ _ _=>D b
 | .aw=>True
 | .map m=>D m
 | .fq=>True
 | .func fn a b=>rF D fn/\ca D a/\ca D b
 | .nilFunc=>True
 | .iface _ v=>ba D v
 | .nilIface=>True
 | .agg cs=>ca D cs
 | .tuple aB=>ca D aB
def ca(D:Nat->Prop):List q->Prop
 |[]=>True
 |v::h=>ba D v/\ca D h
end
def iS(D:Nat->Prop)(h:List q):ca D h↔∀v∈h,ba D v:=by
 induction h with
 |nil=>simp[ca]
 |cons v h U=>simp[ca,U]
mutual
def tk{u d:bC}{D:Nat->Prop}(e:∀b,D b->u b=d b):∀v,ba D v->af u v=af d v
 | .bool _,_=>rfl
 | .int _ _,_=>rfl
 | .str _,_=>rfl
 | .ptr b A,g=>by simp only[af,e b g]
 | .bt,_=>rfl
 | .slice b A h c,g=>by simp only[af,e b g]
 | .cH b A h c,g=>by simp only[af,e b g]
 | .aw,_=>rfl
 | .map m,g=>by simp only[af,e m g]
 | .fq,_=>rfl
 | .func fn a b,g=>by
   obtain⟨f,i,n⟩:=g
   have j:f7 u fn=f7 d fn:=by
    cases fn<;>simp only[f7]
    rw[e _ f]
   simp only[af,j,ov e a i,ov e b n]
 | .nilFunc,_=>rfl
 | .iface t v,g=>by simp only[af,tk e v g]
 | .nilIface,_=>rfl
 | .agg cs,g=>by simp only[af,ov e cs g]
 | .tuple aB,g=>by simp only[af,ov e aB g]
def ov{u d:bC}{D:Nat->Prop}(e:∀b,D b->u b=d b):∀h,ca D h->aR u h=aR d h
 |[],_=>rfl
 |v::h,g=>by simp only[aR,tk e v g.1,ov e h g.2]
end
mutual
def gZ{D bk:Nat->Prop}(e:∀b,D b->bk b):∀v,ba D v->ba bk v
 | .bool _,_=>trivial
 | .int _ _,_=>trivial
 | .str _,g=>g
 | .ptr b _,g=>e b g
 | .bt,_=>trivial
 | .slice b _ _ _,g=>e b g
 | .cH b _ _ _,g=>e b g
 | .aw,_=>trivial
 | .map m,g=>e m g
 | .fq,_=>trivial
 | .func fn a b,g=>⟨by cases fn<;>first|exact e _ g.1|exact g.1,h5 e a g.2.1,h5 e b g.2.2⟩
 | .nilFunc,_=>trivial
 | .iface _ v,g=>gZ e v g
 | .nilIface,_=>trivial
 | .agg cs,g=>h5 e cs g
 | .tuple aB,g=>h5 e aB g
def h5{D bk:Nat->Prop}(e:∀b,D b->bk b):∀h,ca D h->ca bk h
 |[],_=>trivial
 |v::h,g=>⟨gZ e v g.1,h5 e h g.2⟩
end
open Go.RowKit (Below)
structure eo(u:bC)(D:Nat->Prop)(n aa:Nat)(y:F q)(tmps:Array Value):Prop where
 size:tmps.size=n
 val:∀t v,cB aa t=true->y.get t=some v->tmps[t]? =some (af u v)/\ba D v
def sR(C:ax)(fn aa:Nat):Prop:=∃f,C.P.funcs[fn]? =some f/\lv aa f.results.toList=true
def oK(c:Code):Prop:=c= .ret\/∃id,c= .exit id
def m9(u:bC):sK->Target
 | .fn fn a=> .fn (f7 u fn) (aR u a).toArray
 | .collected r=> .collected (u r).a8
def fx(u:bC)(d:dI):Deferred:=⟨m9 u d.target,(aR u d.args).toArray⟩
def Gv(D:Nat->Prop):sK->Prop
 | .fn fn a=>rF D fn/\ca D a
 | .collected r=>D r
def j7(D:Nat->Prop)(d:dI):Prop:=Gv D d.target/\ca D d.args
def n8(st:h1)(n:Nat)(pl:fS)(an aC ai:Nat):Prop:=match st with
 | .own=>aC=ai
 | .marked=>aC=ai\/an<=aC
 | .grow _=>(aC=ai\/an<=aC)/\n<=pl.room/\pl.b3+pl.room<=an
 | .eA=>True/\n<=pl.room/\pl.b3+pl.room<=an
def n8.free{st:h1}{n:Nat}{pl:fS}{an aC ai:Nat}(e:n8 st n pl an aC ai)(a:st≠ .eA):ai<=aC\/an<=aC:=by
 cases st with
 |own=>exact .inl (zf e.symm)
 |marked=>exact e.imp (λj=>zf j.symm) id
 |grow _=>exact e.1.imp (λj=>zf j.symm) id
 |eA=>exact absurd rfl a
def cG(u:bC)(j:q×q×Nat):MapEntry:=⟨af u j.1,af u j.2.1,j.2.2⟩
def eD(C:ax)(u:bC)(D:Nat->Prop)(A:ac)(pl:fS)(w:World):Prop:=match A with
 | .cells c n st=>∃a2 ty aC ai,w.heap[pl.a8]? =some (.cells a2 ty (aC,ai))/\n8 st n pl a2.size aC ai/\pl.b3+n<=a2.size/\
    ∀i v,c.get i=some v->a2[pl.b3+i]? =some (af u v)/\ba D v
 | .map ak a=>∃a2,w.heap[pl.a8]? =some (.map a2 a)/\a2.toList=ak.map (cG u)/\∀j∈ak,ba D j.1/\ba D j.2.1
 | .look ak=>∃(a2:Array MapEntry) (a:Nat) (er:List (q×q×Nat)),w.heap[pl.a8]? =some (.map a2 a)/\a2.toList=er.map (cG u)/\(er.map λj=>(j.1,j.2.1)).Perm ak/\∀j∈er,ba D j.1/\ba D j.2.1
 | .kp s pos=>pl.b3=0/\w.heap[pl.a8]? =some (.stringIter (cF s) pos)/\∀x∈s,x<256
 | .eT m f seen st=>pl.b3=0/\w.heap[pl.a8]? =some (.mapIter (m.map λb=>(u b).a8) f seen.toArray st)/\∀b,m=some b->D b
 | .jy m f n bL st p=>pl.b3=0/\D m/\∃seen:List Nat,w.heap[pl.a8]? =some (.mapIter (some (u m).a8) f seen.toArray st)/\(bL.filter λb=> !seen.contains b).length<=n/\∀b,p=some b->p2 seen=some b
 | .loop state pending fn n aa y params assign body av=>∃tmps,w.heap[pl.a8]? =some (.loop ⟨state,pending,fn,tmps,params.toArray,assign,body,(u av).a8⟩)/\eo u D n aa y tmps/\D av/\
    fA C aa assign=true/\fA C aa body=true/\(∀c,pending=some c->oK c)/\sR C fn aa
 | .deferred g=>w.heap[pl.a8]? =some (.deferred (g.map λh=>h.map (fx u)))/\∀h,g=some h->∀d∈h,j7 D d
def sZ(A o':ac)(b d:Nat):Prop:=
 (∃c n a ah,A= .cells c n .eA/\o'= .cells a ah .eA)\/
 (∃c n h a ah,A= .cells c n (.grow h)/\o'= .cells a ah .eA/\d∈h/\ah<=n)\/
 (∃c n h a ah,o'= .cells a ah (.grow h)/\A= .cells c n .eA/\b∈h/\n<=ah)
def je(C:ax)(D:Nat->Prop)(A:ac):Prop:=(∀c n h,A= .cells c n (.grow h)->∀x∈h,D x/\C.aN<=x)/\∀c n st,A= .cells c n st->∀i v,c.get i=some v->i<n
structure bA(C:ax)(u:bC)(D:Nat->Prop)(S:F ac)(nx az:Nat)(w:World):Prop where
 aN:C.aN<=nx
 lt:∀b,D b->b<nx
 jC:∀b A,H C S b=some A->b<nx
 obj:∀b A,H C S b=some A->D b->eD C u D A (u b) w
 sep:∀b a A o',H C S b=some A->H C S a=some o'->D b->D a->b≠a->C.aN<=b->(u b).a8=(u a).a8->sZ A o' b a/\(u b).b3=(u a).b3
 base:∀b A,C.aN<=b->H C S b=some A->D b->az<=(u b).a8
 ch:∀b A,H C S b=some A->D b->je C D A
def ee(u:bC)(D:Nat->Prop)(ad:Operand->Value)(a:Operand->Option q)(h:List Operand):Prop:=
 ∀x∈h,∀v,a x=some v->ad x=af u v/\ba D v
section
variable{C:ax}{u:bC}{D:Nat->Prop}{S:F ac}{nx az:Nat}{w:World}
def tc(s:ByteArray):cF (s.data.toList.map (·.toNat))=s:=by
 unfold cF
 rw[YH]
 have:(UInt8.ofNat∘λx:UInt8=>x.toNat)=id:=by funext x;simp
 rw[this]
 simp
def H8{α g:Type}(f:α->Option g):∀(h:List α) (r:List g),mw f h=some r->r.length=h.length/\∀(i:Nat) (a:α),h[i]? =some a->∃b,r[i]? =some b/\f a=some b:=by
 intro h
 induction h with
 |nil=>intro r e;simp[mw]at e;subst e;simp
 |cons a h U=>
  intro r e
  simp only[mw]at e
  cases d:f a with
  |none=>simp[d]at e
  |some b=>
   simp only[d]at e
   cases K:mw f h with
   |none=>simp[K]at e
   |some t=>
    simp only[K,Zu]at e
    subst e
    obtain⟨m,n⟩:=U _ K
    refine⟨by simp[m],λi x c=> ?_⟩
    cases i with
    |zero=>simp at c;subst c;exact⟨b,Zs,d⟩
    |succ i=>simp at c;obtain⟨s,p,jp⟩:=n i x c;exact⟨s,by simpa using p,jp⟩
def IF(u:bC)(D:Nat->Prop):∀(n:Nat) (v:Value) (a:q),mB n v=some a->v=af u a/\ba D a:=by
 intro n
 induction n with
 |zero=>intro v a e;simp[mB]at e
 |succ n U=>
  have rW:∀(h:List Value) (r:List q),mw (mB n) h=some r->h=aR u r/\ca D r:=by
   intro h r e
   obtain⟨C,f⟩:=H8 _ h r e
   constructor
   ·rw[hh]
    apply Y9
    intro i
    rw[Zw]
    cases c:h[i]? with
    |none=>
     have:h.length<=i:=by simpa using c
     rw[Z3 Zo];rfl
    |some x=>
     obtain⟨b,Y,d⟩:=f i x c
     rw[Y,(U _ _ d).1];rfl
   ·rw[iS]
    intro v s
    obtain⟨i,ai⟩:=ZZ.1 s
    have p:i<h.length:=by
     have:=(Zf.1 ai).1;omega
    obtain⟨b,Y,d⟩:=f i h[i] (Ze p)
    rw[ai]at Y;simp at Y;subst Y
    exact(U _ _ d).2
  intro v a e
  unfold mB at e
  split at e<;>(try(simp at e;subst e;simp[af,ba,f7,aR,rF,ca];done))
  ·simp at e;subst e
   refine⟨by simp only[af];rw[tc], ?_⟩
   simp only[ba]
   intro x c
   obtain⟨w,_,rfl⟩:=ZB.1 c
   exact w.toNat_lt
  ·rename_i t v
   split at e
   ·rename_i z m
    simp at e;subst e
    obtain⟨j,g⟩:=U _ _ m
    exact⟨by simp only[af,j],g⟩
   ·simp at e
  ·rename_i cs
   split at e
   ·rename_i h ap
    simp at e;subst e
    obtain⟨j,g⟩:=rW _ _ ap
    exact⟨by simp only[af];rw[<-j],g⟩
   ·simp at e
  ·rename_i cs
   split at e
   ·rename_i h ap
    simp at e;subst e
    obtain⟨j,g⟩:=rW _ _ ap
    exact⟨by simp only[af];rw[<-j],g⟩
   ·simp at e
  ·simp at e
def r7{v:Value}{a:q}(e:nG v=some a):v=af u a/\ba D a:=IF u D _ _ _ e
def h2(b A i:Nat):(⟨b,A,none⟩:Addr).add i=⟨b,A+i,none⟩:=by unfold Addr.add;split<;>simp_all
def EJ(K:bA C u D S nx az w){b:Nat}(Y:D b){c:F q}(e:cellsOf C S b=some c):
 ∃a2 ty aC ai,w.heap[(u b).a8]? =some (.cells a2 ty (aC,ai))/\∀i v,c.get i=some v->a2[(u b).b3+i]? =some (af u v)/\ba D v:=by
 unfold cellsOf at e
 split at e
 ·rename_i g n st f
  simp at e;subst e
  obtain⟨a2,ty,aC,ai,a,_,_,d⟩:=K.obj b _ f Y
  exact⟨a2,ty,aC,ai,a,d⟩
 ·simp at e
def xd(K:bA C u D S nx az w){b:Nat}(Y:D b){c:F q}(e:cellsOf C S b=some c){A:Nat}{v:q}(i:c.get A=some v):
 w.cell? ⟨(u b).a8,(u b).b3+A,none⟩=some (af u v)/\ba D v:=by
 obtain⟨a2,ty,aC,ai,a,d⟩:=EJ K Y e
 obtain⟨f,g⟩:=d A v i
 exact⟨by simp[World.cell?,a,f],g⟩
def q4(K:bA C u D S nx az w){b:Nat}(Y:D b){c:F q}(e:cellsOf C S b=some c){A n:Nat}{h:List q}(p:c.eK A n=some h):
 (loadCells ⟨(u b).a8,(u b).b3+A,none⟩ n).run C.P w= .ok (aR u h).toArray w/\ca D h:=by
 obtain⟨g,m⟩:=F.rC _ _ _ _ p
 have key:∀i v,h[i]? =some v->w.cell? ⟨(u b).a8,(u b).b3+A+i,none⟩=some (af u v)/\ba D v:=by
  intro i v ai
  have s:i<n:=zu (Zf.1 ai).1
  have:=xd K Y e (A:=A+i) (v:=v) (by rw[m i s,ai])
  rwa[<-Z1]at this
 constructor
 ·have ap:=run_loadCells_list (P:=C.P) w ⟨(u b).a8,(u b).b3+A,none⟩ (aR u h) (λE v d=>by
   rw[h2]
   rw[hh,Zw]at d
   cases f:h[E]? with
   |none=>simp[f]at d
   |some a=>simp[f]at d;subst d;exact(key E a f).1)
  have r:(aR u h).length=n:=by rw[hh,Zn,g]
  rw[r]at ap
  exact ap
 ·rw[iS]
  intro v d
  obtain⟨i,ai⟩:=ZZ.1 d
  exact(key i v ai).2
def K1{t n:Nat}(e:d6 C t=some n):∃i,C.P.info? t=some i/\i.size=n:=by
 unfold d6 at e
 cases ai:C.P.info? t with
 |none=>simp[ai]at e
 |some i=>simp[ai]at e;exact⟨i,rfl,e⟩
def f8{t n:Nat}(e:d6 C t=some n)(w:World):(sizeOf t).run C.P w= .ok n w:=by
 obtain⟨i,ai,rfl⟩:=K1 e
 simp[sizeOf,typeInfo,ai]
def lx{t:Nat}{z:q}(e:hW C t=some z)(u:bC)(D:Nat->Prop)(w:World):(zeroValue t).run C.P w= .ok (af u z) w/\ba D z:=by
 unfold hW at e
 cases ai:C.P.info? t with
 |none=>simp[ai]at e
 |some i=>
  simp only[ai]at e
  cases a:i.zero with
  |none=>simp[a]at e
  |some v=>
   simp only[a]at e
   obtain⟨j,g⟩:=r7 (u:=u) (D:=D) e
   exact⟨by simp[zeroValue,typeInfo,ai,a,j],g⟩
def ss{t:Nat}{b:Bool}(e:nr C t=some b)(w:World):(isAgg t).run C.P w= .ok b w:=by
 unfold nr at e
 cases a:C.P.underlying t with
 |none=>simp[a]at e
 |some d=>
  simp only[a]at e
  cases d<;>simp at e<;>subst e<;>simp[isAgg,run_underlying a]
end
section
variable{C:ax}{u:bC}{D:Nat->Prop}{S:F ac}{nx az:Nat}{w:World}
def gi{wr:List (Nat×Nat)}{x:Operand}{d:eQ}(e:f4 wr x=some d)(V:List (Nat×q))(y:F q):fd d V y=eg wr V y x:=by
 cases x with
 |tmp t=>
  simp only[f4]at e
  cases b:cd wr t with
  |none=>simp[b]at e;subst e;simp[fd,eg,b]
  |some E=>simp[b]at e;subst e;simp[fd,eg,b]
 |const v=>
  simp only[f4]at e
  cases c:nG v with
  |none=>simp[c]at e
  |some a=>simp[c]at e;subst e;simp[fd,eg,c]
 |global g=>simp[f4]at e;subst e;rfl
 |func f=>simp[f4]at e;subst e;rfl
def FN{wr:List (Nat×Nat)}(V:List (Nat×q))(y:F q):∀{h:List Operand}{cs:List eQ}{aB:List q},o7 wr h=some cs->mc V y cs=some aB->
 aB.length=h.length/\∀(i:Nat) x,h[i]? =some x->∃v,aB[i]? =some v/\eg wr V y x=some v:=by
 intro h
 induction h with
 |nil=>intro cs aB c d;simp[o7]at c;subst c;simp[mc]at d;subst d;simp
 |cons x h U=>
  intro cs aB c d
  simp only[o7]at c
  cases g:f4 wr x with
  |none=>simp[g]at c
  |some p=>
   cases ap:o7 wr h with
   |none=>simp[g,ap]at c
   |some n=>
    simp[g,ap]at c;subst c
    simp only[mc]at d
    cases f:fd p V y with
    |none=>simp[f]at d
    |some v=>
     cases K:mc V y n with
     |none=>simp[f,K]at d
     |some r=>
      simp[f,K]at d;subst d
      obtain⟨a,b⟩:=U ap K
      refine⟨by simp[a],λi s m=> ?_⟩
      cases i with
      |zero=>simp at m;subst m;exact⟨v,Zs,by rw[<-gi g];exact f⟩
      |succ i=>simp at m;simpa using b i s m
def FL{ad:Operand->Option q}:∀{h:List Operand}{aB:List q},hj ad h=some aB->
 aB.length=h.length/\∀(i:Nat) x,h[i]? =some x->∃v,aB[i]? =some v/\ad x=some v:=by
 intro h
 induction h with
 |nil=>intro aB e;simp[hj]at e;subst e;simp
 |cons x h U=>
  intro aB e
  simp only[hj]at e
  cases c:ad x with
  |none=>simp[c]at e
  |some v=>
   cases ap:hj ad h with
   |none=>simp[c,ap]at e
   |some r=>
    simp[c,ap]at e;subst e
    obtain⟨a,b⟩:=U ap
    refine⟨by simp[a],λi f d=> ?_⟩
    cases i with
    |zero=>simp at d;subst d;exact⟨v,Zs,c⟩
    |succ i=>simp at d;simpa using b i f d
def yJ{ad:Operand->Value}{n:Operand->Option q}{h:List Operand}{aB:List q}(m:ee u D ad n h)(p:aB.length=h.length)
 (f:∀(i:Nat) x,h[i]? =some x->∃v,aB[i]? =some v/\n x=some v):h.map ad=aR u aB/\ca D aB:=by
 constructor
 ·rw[hh]
  apply Y9
  intro i
  rw[Zw,Zw]
  cases d:h[i]? with
  |none=>
   have:h.length<=i:=by simpa using d
   rw[Z3 Zo];rfl
  |some x=>
   obtain⟨v,c,a⟩:=f i x d
   rw[c]
   simp[(m x (Zg d) v a).1]
 ·rw[iS]
  intro v c
  obtain⟨i,ai⟩:=ZZ.1 c
  have g:i<h.length:=zu (Zf.1 ai).1
  obtain⟨L,b,a⟩:=f i h[i] (Ze g)
  rw[ai]at b;simp at b;subst b
  exact(m _ (List.getElem_mem g) v a).2
def iu{ad:Operand->Value}{b:Operand->Option q}{a:Array Operand}{aB:List q}(i:ee u D ad b a.toList)(e:hj b a.toList=some aB):
 a.map ad=(aR u aB).toArray/\ca D aB:=by
 obtain⟨c,d⟩:=FL e
 obtain⟨f,g⟩:=yJ i c d
 refine⟨?_,g⟩
 apply YC
 simp[f]
def Bg(k:IntKind)(n:Int):hV k n=k.wrap n:=by
 cases k<;>simp only[hV]<;>try rfl
 simp only[cK,IntKind.wrap,IntKind.bits,IntKind.signed,Zc,Bool.true_and,ge_iff_le]
 have a:((2:Int)^64)=18446744073709551616:=by decide
 have b:((2:Int)^(64-1))=9223372036854775808:=by decide
 rw[a,b]
 by_cases e:n%18446744073709551616<9223372036854775808
 ·rw[Zv e,Zj (by simpa using e)]
 ·rw[Zj e,Zv (by simpa using e)]
@[simp] def LN(k:IntKind)(n:Int):fm k n=some (.int k (k.wrap n)):=by simp[fm,Bg]
@[simp] def ye(k:IntKind)(n:Int):gH k n=some (.int k n):=by simp[gH]
@[simp] def jW(b:Bool):gz b=some (.bool b):=by cases b<;>rfl
@[simp] def ot{α:Type _}(c:Bool)(a:Option α)(v:α):aQ c none a=some v↔c=false/\a=some v:=by cases c<;>simp
@[simp] def ke(x a:Int):jq x a=decide (x=a):=by
  rw[Z8,Zc]
  cases x<;>cases a
  ·exact⟨λe=>by rw[Zh e],λe=>by cases e;exact Y2 _⟩
  ·exact⟨(λe=>by cases e),(λe=>by cases e)⟩
  ·exact⟨(λe=>by cases e),(λe=>by cases e)⟩
  ·exact⟨λe=>by rw[Zh e],λe=>by cases e;exact Y2 _⟩
@[simp] def jr(x c:Int):kf x c=decide (x<c):=by
  rw[Z8,Zc]
  cases x with
  |ofNat a=>cases c with
   |ofNat b=>show Nat.blt a b=true↔(a:Int)<(b:Int);simp[Nat.blt];omega
   |negSucc b=>show false=true↔(a:Int)<Int.negSucc b;simp;omega
  |negSucc a=>cases c with
   |ofNat b=>show true=true↔Int.negSucc a<(b:Int);simp;omega
   |negSucc b=>show Nat.blt b a=true↔Int.negSucc a<Int.negSucc b;simp[Nat.blt];omega
@[simp] def yk(k co:IntKind):f0 k co=decide (k=co):=by cases k<;>cases co<;>rfl
@[simp] def Ew(a b:Bool):qZ a b=(a==b):=by cases a<;>cases b<;>rfl
def DX{op:BinOp}{k:IntKind}{x a:Int}{v:q}(t:TypeId)(e:fH op k x a=some v)(c:fK op=false):
 (binOp op t (.int k x) (.int k a)).run C.P w= .ok (af u v) w/\ba D v:=by
 cases op<;>simp[fH,fK,binOp,Op.intArith,Op.intDiv,Op.intBits,Op.intCmp]at e c ⊢ <;>
  first
  |(subst e;simp[af,ba];done)
  |(obtain⟨b,e⟩:=e;subst e;simp[af,ba,b];done)
  |(subst e;exact⟨rfl,trivial⟩)
  |(subst e;refine⟨?_,trivial⟩;simp only[af];congr 1;rw[Z8];simp;done)
def D4{op:BinOp}{k co:IntKind}{x a:Int}{v:q}(t:TypeId)(e:pg op k x a=some v):
 (binOp op t (.int k x) (.int co a)).run C.P w= .ok (af u v) w/\ba D v:=by
 unfold pg at e
 simp only[jr,ot,Zb]at e
 obtain⟨b,e⟩:=e
 cases op<;>simp[binOp,Op.shift,b]at e ⊢
 all_goals(subst e;simp[af,ba])
def wR{op:BinOp}{x g v:q}(t:TypeId)(e:ag op x g=some v):
 (binOp op t (af u x) (af u g)).run C.P w= .ok (af u v) w/\ba D v/\∃k a co b,x= .int k a/\g= .int co b:=by
 unfold ag at e
 split at e
 ·rename_i k a co b
  simp only[af]
  by_cases c:fK op=true
  ·simp only[c,cO]at e
   obtain⟨d,f⟩:=D4 (C:=C) (u:=u) (D:=D) (w:=w) (co:=co) t e
   exact⟨d,f,_,_,_,_,rfl,rfl⟩
  ·have c:fK op=false:=by simpa using c
   simp only[c,fz,yk,ce,Zc]at e
   obtain⟨rfl,e⟩:=e
   obtain⟨d,f⟩:=DX (C:=C) (u:=u) (D:=D) (w:=w) t e c
   exact⟨d,f,_,_,_,_,rfl,rfl⟩
 ·simp at e
def qD(u:bC)(D:Nat->Prop)(P:Program)(w:World)(s:Sem Next)(v:q):Prop:=s.run P w= .ok (.value (af u v)) w/\ba D v
def gf{P:Program}{s:Sem Value}{v:q}(e:s.run P w= .ok (af u v) w/\ba D v):qD u D P w (do pure (.value (<-s))) v:=by
 refine⟨?_,e.2⟩
 simp[e.1]
def wS(K:bA C u D S nx az w){t:TypeId}(m:nr C t=some false){a v:q}(g:ba D a)(e:W C S a=some v):
 (Instr.loadAt t (af u a)).run C.P w= .ok (af u v) w/\ba D v:=by
 unfold W at e
 split at e
 ·rename_i b A
  split at e
  ·rename_i c i
   obtain⟨d,f⟩:=xd K g i e
   refine⟨?_,f⟩
   simp[Instr.loadAt,Instr.sureAddr,af,loadVar,ss m,d]
  ·simp at e
 ·simp at e
def wT(K:bA C u D S nx az w){t:TypeId}{n:Nat}(p:nr C t=some true)(m:d6 C t=some n){a v:q}(g:ba D a)(e:br C S n a=some v):
 (Instr.loadAt t (af u a)).run C.P w= .ok (af u v) w/\ba D v:=by
 unfold br at e
 split at e
 ·rename_i b A
  split at e
  ·rename_i c i
   split at e
   ·rename_i h ap
    simp at e;subst e
    obtain⟨d,f⟩:=q4 K g i ap
    refine⟨?_,f⟩
    simp[Instr.loadAt,Instr.sureAddr,af,loadVar,ss p,f8 m,d]
   ·simp at e
  ·simp at e
 ·simp at e
def wU(K:bA C u D S nx az w){t:TypeId}{a v:q}(c:ba D a)(e:iM C S t a=some v):
 (Instr.loadAt t (af u a)).run C.P w= .ok (af u v) w/\ba D v:=by
 unfold iM at e
 split at e
 ·rename_i s b d;exact wT K b d c e
 ·rename_i b;exact wS K b c e
 ·simp at e
def e0{a b:Nat}(e:Nat.blt a b=true):a<b:=by simp[Nat.blt]at e;omega
def ep{a b:Nat}(e:Nat.ble a b=true):a<=b:=by simpa using e
def nD{v:q}{n:Nat}(e:f1 v=some n):∃k,v= .int k (Int.ofNat n):=by
 unfold f1 at e
 split at e
 ·rename_i k z
  split at e
  ·simp at e;subst e;exact⟨k,rfl⟩
  ·simp at e
 ·simp at e
def FT{s:TypeId}{d:Array Field}{f z:Nat}{c:Field}(n:C.P.underlying s=some (.struct d))(i:d.toList[f]? =some c)
 (p:d6 C c.type=some z)(r:z≠0){a v:q}(g:ba D a)(e:ao c.offset a=some v):
 (Instr.fieldAt s (af u a) f).run C.P w= .ok (af u v) w/\ba D v:=by
 unfold ao at e
 split at e
 ·rename_i b A
  simp at e;subst e
  have m:d[f]? =some c:=by rw[<-i];simp
  refine⟨?_,g⟩
  simp[Instr.fieldAt,run_underlying n,m,Instr.sureAddr,af,fieldPlace,f8 p,r,h2,Z1]
 ·simp at e
def GY{t:TypeId}{n an i:Nat}{bW:TypeId}(g:C.P.underlying t=some (.array n bW))(m:d6 C bW=some an)
 {a v:q}{k:IntKind}(d:ba D a)(e:sI n an a i=some v):
 (Instr.indexAt t (af u a) (.int k (Int.ofNat i))).run C.P w= .ok (af u v) w/\ba D v:=by
 unfold sI at e
 split at e
 ·rename_i b A
  simp only[ce,Zu]at e
  obtain⟨c,rfl⟩:=e
  have f:i<n:=e0 c
  refine⟨?_,d⟩
  simp[Instr.indexAt,asIntOf,run_underlying g,Instr.sureAddr,af,f8 m,f,h2,Z1]
 ·simp at e
def G0{t:TypeId}{an i:Nat}{bW:TypeId}(g:C.P.underlying t=some (.slice bW))(m:d6 C bW=some an)
 {a v:q}{k:IntKind}(f:ba D a)(e:mP an a i=some v):
 (Instr.indexAt t (af u a) (.int k (Int.ofNat i))).run C.P w= .ok (af u v) w/\ba D v:=by
 unfold mP at e
 split at e
 ·rename_i b A n _
  simp only[ce,Zu]at e
  obtain⟨c,rfl⟩:=e
  have d:i<n:=e0 c
  refine⟨?_,f⟩
  simp[Instr.indexAt,asIntOf,run_underlying g,af,f8 m,d,h2,Z1]
 ·rename_i b A n _
  simp only[ce,Zu]at e
  obtain⟨c,rfl⟩:=e
  have d:i<n:=e0 c
  refine⟨?_,f⟩
  simp[Instr.indexAt,asIntOf,run_underlying g,af,f8 m,d,h2,Z1]
 ·simp at e
def LI{a v:q}(d:ba D a)(e:aY a=some v):v=a/\(∀oper:Oper,∀ad:Operand->Value,∀x,oper.op= .nilCheck x->ad x=af u a->(execOp ad oper).run C.P w= .ok (.value (af u v)) w):=by
 unfold aY at e
 split at e
 ·simp at e;subst e
  refine⟨rfl,λoper ad x b c=> ?_⟩
  simp[execOp,b,c,af]
 ·split at e
  ·simp at e;subst e
   refine⟨rfl,λoper ad x b c=> ?_⟩
   simp[execOp,b,c,af,f7]
  ·simp at e;subst e
   refine⟨rfl,λoper ad x b c=> ?_⟩
   simp[execOp,b,c,af,f7]
  ·simp at e
 ·simp at e;subst e
  refine⟨rfl,λoper ad x b c=> ?_⟩
  simp[execOp,b,c,af]
 ·simp at e
def LH{i:Nat}{a v:q}(b:ba D a)(e:dE i a=some v):(Instr.extract (af u a) i).run C.P w= .ok (af u v) w/\ba D v:=by
 unfold dE at e
 split at e
 ·rename_i aB
  rw[ic]at e
  refine⟨?_,(iS D aB).1 b v (Zg e)⟩
  simp[Instr.extract,af,hh,e]
 ·simp at e
def xH{ad:Operand->Value}{m:Operand->Option q}:∀{h:List (Nat×Operand)}{bE:List (Nat×q)},ee u D ad m (h.map (·.2))->kV m h=some bE->
 h.map (λx=>(x.1,ad x.2))=bE.map (λx=>(x.1,af u x.2))/\∀x∈bE,ba D x.2:=by
 intro h
 induction h with
 |nil=>intro bE _ e;simp[kV]at e;subst e;simp
 |cons a h U=>
  intro bE p e
  obtain⟨i,x⟩:=a
  simp only[kV]at e
  cases g:m x with
  |none=>simp[g]at e
  |some v=>
   cases ap:kV m h with
   |none=>simp[g,ap]at e
   |some r=>
    simp[g,ap]at e;subst e
    obtain⟨a,b⟩:=U (λn f=>p n (by simp at f ⊢;exact .inr f)) ap
    obtain⟨c,d⟩:=p x Zs v g
    refine⟨by simp[a,c],λn f=> ?_⟩
    cases f with
    |head=>exact d
    |tail _ f=>exact b n f
def jh(u:bC)(v:q):(af u v).cells=(aR u v.cells).toArray:=by
 cases v<;>simp[af,Value.cells,q.cells,aR]
def iP{v:q}(e:ba D v):ca D v.cells:=by
 cases v with
 |agg cs=>exact e
 |_=>exact⟨e,trivial⟩
def Ga(u:bC):∀(aB:List q) (cs:List q) (off k:Nat),
 ((aR u aB).zipIdx k).foldl (λ(cs:Array Value) (x:Value×Nat)=>cs.setIfInBounds (off+x.2) x.1) (aR u cs).toArray=(aR u (e5 cs (off+k) aB)).toArray:=by
 intro aB
 induction aB with
 |nil=>intro cs off k;rfl
 |cons v aB U=>
  intro cs off k
  simp only[aR,List.zipIdx_cons,ZU,e5]
  have:(aR u cs).toArray.setIfInBounds (off+k) (af u v)=(aR u (cs.set (off+k) v)).toArray:=by
   apply YC
   simp[hh,List.map_set]
  rw[this,U]
  rfl
def Gw{cs:List q}{i:Nat}{v:q}(e:ca D cs)(b:ba D v):ca D (cs.set i v):=by
 rw[iS]at e ⊢
 intro x c
 rcases YP c with a|a
 ·exact e x a
 ·rw[a];exact b
def Gx:∀(aB cs:List q) (A:Nat),ca D cs->ca D aB->ca D (e5 cs A aB):=by
 intro aB
 induction aB with
 |nil=>intro cs A e _;exact e
 |cons v aB U=>intro cs A e a;exact U _ _ (Gw e a.1) a.2
def tH{g qm:Nat->Option (Nat×Nat)}(z:∀i x,g i=some x->qm i=some x):∀(bE:List (Nat×q)) (cs r:List q),ca D cs->(∀x∈bE,ba D x.2)->
 me g cs bE=some r->Instr.fill qm (aR u cs).toArray (bE.map λx=>(x.1,af u x.2))=some (aR u r).toArray/\ca D r:=by
 intro bE
 induction bE with
 |nil=>intro cs r e _ c;simp[me]at c;subst c;exact⟨rfl,e⟩
 |cons p bE U=>
  intro cs r e n c
  obtain⟨i,v⟩:=p
  simp only[me]at c
  cases f:g i with
  |none=>simp[f]at c
  |some x=>
   obtain⟨off,size⟩:=x
   simp only[f,ce,Zq]at c
   obtain⟨⟨d,m⟩,c⟩:=c
   have d:v.cells.length=size:=Zh d
   have m:off+size<=cs.length:=ep m
   have s:ba D v:=n (i,v) Zs
   obtain⟨a,b⟩:=U (e5 cs off v.cells) r (Gx _ _ _ e (iP s)) (λx C=>n x (by simp[C])) c
   refine⟨?_,b⟩
   simp only[ZS,Instr.fill,z _ _ f,jh]
   have t:(aR u v.cells).length=size:=by rw[hh,Zn,d]
   have w:(aR u cs).length=cs.length:=by rw[hh,Zn]
   rw[Zj]
   ·rw[<-a]
    congr 1
    have:=Ga u v.cells cs off 0
    simp
    simpa using this
   ·simp[t,w];omega
def J5{α c:Type}(P:Program)(w:World)(f:α->Sem c)(g:α->c):∀(h:List α),(∀a∈h,(f a).run P w= .ok (g a) w)->(h.mapM f).run P w= .ok (h.map g) w:=by
 intro h
 induction h with
 |nil=>intro _;simp
 |cons a h U=>intro e;simp[zb,e a Zs,U (λb Y=>e b (by simp[Y]))]
def KZ{a:List Field}{i:Nat}{x:Nat×Nat}(e:vc C a i=some x):∃f s,a[i]? =some f/\d6 C f.type=some s/\x=(f.offset,s):=by
 unfold vc at e
 rw[ic]at e
 split at e
 ·rename_i f b
  split at e
  ·rename_i s c
   simp at e
   exact⟨f,s,b,c,e.symm⟩
  ·simp at e
 ·simp at e
def pf{t:TypeId}{cs:List q}{off:Nat}{v:q}(b:ca D cs)(e:m3 C t cs off=some v):
 (part t (aR u cs).toArray off).run C.P w= .ok (af u v) w/\ba D v:=by
 unfold m3 at e
 split at e
 ·rename_i s a c
  simp at e;subst e
  constructor
  ·simp only[part,Sem.run_bind,ss a,Result.andThen_ok,ZP,f8 c,Sem.run_pure,af,hh]
   congr 2
   apply YC
   simp[List.map_take,List.map_drop,List.take_drop]
  ·simp only[ba]
   rw[iS]at b ⊢
   exact λx d=>b x (List.mem_of_mem_drop (YS d))
 ·rename_i a
  rw[ic]at e
  constructor
  ·simp[part,ss a,hh,e]
  ·exact(iS D cs).1 b v (Zg e)
 ·simp at e
def DW{t:TypeId}{x i v:q}(f:ba D x)(e:qP C t x i=some v):(Instr.index t (af u x) (af u i)).run C.P w= .ok (af u v) w/\ba D v:=by
 unfold qP at e
 split at e
 ·simp at e
 ·rename_i n G
  obtain⟨k,rfl⟩:=nD G
  split at e
  ·rename_i m bW cs b
   split at e
   ·rename_i an O
    simp only[ce]at e
    obtain⟨g,p⟩:=e
    have a:=e0 g
    obtain⟨r,z⟩:=pf (u:=u) (w:=w) f p
    refine⟨?_,z⟩
    simp[Instr.index,asIntOf,af,run_underlying b,a,f8 O,r]
   ·simp at e
  ·rename_i s b
   rw[ic]at e
   split at e
   ·rename_i c d
    simp at e;subst e
    refine⟨?_,trivial⟩
    have Y:(cF s)[n]? =some (UInt8.ofNat c):=by
     show(cF s).data[n]? =_
     simp[cF,d]
    have a:c<256:=f c (Zg d)
    simp[Instr.index,asIntOf,af,run_underlying b,Y,YM a]
   ·simp at e
  ·simp at e
def D8{op:UnOp}{x v:q}(e:cY op x=some v):(Op.unary op (af u x)).run C.P w= .ok (af u v) w/\ba D v:=by
 unfold cY at e
 split at e
 ·rename_i k n
  simp[fH]at e;subst e
  exact⟨by simp[Op.unary,Op.intArith,af],trivial⟩
 ·rename_i k n
  simp[fH]at e;subst e
  exact⟨rfl,trivial⟩
 ·simp at e;subst e;exact⟨rfl,trivial⟩
 ·simp at e
def IK:∀{h:List Field},r8 C h=true->∀f∈h,∃s,d6 C f.type=some s:=by
 intro h
 induction h with
 |nil=>intro _ f b;simp at b
 |cons a h U=>
  intro e f b
  simp only[r8,Zq]at e
  cases b with
  |head=>cases c:d6 C a.type with
   |none=>simp[c]at e
   |some s=>exact⟨s,rfl⟩
  |tail _ b=>exact U e.2 f b
def DQ{t:TypeId}{bE:List (Nat×q)}{v:q}(r:∀x∈bE,ba D x.2)(e:qJ C t bE=some v):
 (Instr.build t ((bE.map λx=>(x.1,af u x.2)).toArray)).run C.P w= .ok (af u v) w/\ba D v:=by
 unfold qJ at e
 split at e
 ·simp at e
 ·rename_i z T1
  obtain⟨G,O⟩:=lx T1 u D w
  split at e
  ·rename_i d m
   simp only[ce]at e
   obtain⟨Z,e⟩:=e
   split at e
   ·rename_i cs g
    simp at e;subst e
    have X:(d.mapM λf=>do pure (f.offset, <-sizeOf f.type):Sem (Array (Nat×Nat))).run C.P w= .ok (d.toList.map λf=>(f.offset,(d6 C f.type).getD 0)).toArray w:=by
     rw[Array.mapM_eq_mapM_toList,Sem.run_map,J5 C.P w _ (λf:Field=>(f.offset,(d6 C f.type).getD 0)) _ (λf S=>by
      obtain⟨s,c⟩:=IK Z f S
      simp[f8 c,c])]
     rfl
    obtain⟨a,b⟩:=tH (u:=u) (qm:=λi=>((d.toList.map λf=>(f.offset,(d6 C f.type).getD 0)).toArray)[i]?) (λi x T0=>by
     obtain⟨f,s,p,P,rfl⟩:=KZ T0
     simp at p
     simp[p,P]) bE z.cells cs (iP O) r g
    refine⟨?_,b⟩
    simp only[Instr.build,Sem.run_bind,G,Result.andThen_ok,run_underlying m,X,jh,a,af,Sem.run_pure]
   ·simp at e
  ·rename_i n bW m
   split at e
   ·rename_i s c
    split at e
    ·rename_i cs g
     simp at e;subst e
     obtain⟨a,b⟩:=tH (u:=u) (qm:=λi=>some (i*s,s)) (λ_ _ e=>e) bE z.cells cs (iP O) r g
     refine⟨?_,b⟩
     simp[Instr.build,G,run_underlying m,f8 c,jh,a,af]
    ·simp at e
   ·simp at e
  ·simp at e
end
end Go.Q

