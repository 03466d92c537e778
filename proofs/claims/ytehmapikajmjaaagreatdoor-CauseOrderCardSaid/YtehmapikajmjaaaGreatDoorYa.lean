/- Part of the last text; no conditions -/
import GoSem.Step
import Derived.Below
import Derived.ChangeKeysEq
import Derived.Laws.IdiomCopy
import Derived.Laws.Unary
import Derived.Laws.Wrap64
import Derived.Laws.StructEq
import Derived.KernelRfl
set_option maxHeartbeats 8000000
set_option linter.all false
namespace Go
def Zo{p:Prop}(h:p:=by omega):p:=h
def Za{p q:Prop}(a:p)(b:q):p/\q:=⟨a,b⟩
def Zd{p:Prop}(h:p:=by decide):p:=h
def Zs{p:Prop}(h:p:=by simp):p:=h
def Zx{p:Prop}(h:p:=by simp;omega):p:=h
def Zk{p:Prop}(h:p:=by kernel_rfl):p:=h
def Zb:type_of%@List.getElem?_eq_getElem:=@List.getElem?_eq_getElem
def Zc:type_of%@decide_eq_false_iff_not:=@decide_eq_false_iff_not
def Ze:type_of%@List.getElem?_eq_some_iff:=@List.getElem?_eq_some_iff
def Zf:type_of%@decide_eq_true_eq:=@decide_eq_true_eq
def Zg:type_of%@Nat.le_refl:=@Nat.le_refl
def Zh:type_of%@Option.some.injEq:=@Option.some.injEq
def Zi:type_of%@if_neg:=@if_neg
def Zj:type_of%@List.length_map:=@List.length_map
def Zl:type_of%@List.mem_of_getElem?:=@List.mem_of_getElem?
def Zn:type_of%@List.getElem?_map:=@List.getElem?_map
def Zp:type_of%@List.mem_cons_self:=@List.mem_cons_self
def Zq:type_of%@List.mem_cons:=@List.mem_cons
def Zr:type_of%@Nat.eq_of_beq_eq_true:=@Nat.eq_of_beq_eq_true
def Zt:type_of%@Bool.and_eq_true:=@Bool.and_eq_true
def Zu:type_of%@if_pos:=@if_pos
def Zv:type_of%@List.mem_append:=@List.mem_append
def Zw:type_of%@List.mem_cons_of_mem:=@List.mem_cons_of_mem
def Zy:type_of%@List.take_of_length_le:=@List.take_of_length_le
def Zz:type_of%@List.drop_eq_getElem_cons:=@List.drop_eq_getElem_cons
def ZA:type_of%@Bool.false_eq_true:=@Bool.false_eq_true
def ZB:type_of%@List.mem_map:=@List.mem_map
def ZC:type_of%@List.mem_singleton:=@List.mem_singleton
def ZD:type_of%@Nat.le_trans:=@Nat.le_trans
def ZE:type_of%@List.take_add_one:=@List.take_add_one
def ZF:type_of%@Nat.mul_one:=@Nat.mul_one
def ZG:type_of%@List.length_append:=@List.length_append
def ZH:type_of%@List.map_cons:=@List.map_cons
def ZI:type_of%@List.length_cons:=@List.length_cons
def ZJ:type_of%@if_false:=@if_false
def ZK:type_of%@if_true:=@if_true
def ZL:type_of%@Nat.add_zero:=@Nat.add_zero
def ZM:type_of%@List.drop_eq_nil_of_le:=@List.drop_eq_nil_of_le
def ZN:type_of%@not_false_eq_true:=@not_false_eq_true
def ZO:type_of%@List.getElem?_append_left:=@List.getElem?_append_left
def ZP:type_of%@List.length_pos_iff:=@List.length_pos_iff
def ZQ:type_of%@Nat.zero_add:=@Nat.zero_add
def ZR:type_of%@List.map_append:=@List.map_append
def ZS:type_of%@List.not_mem_nil:=@List.not_mem_nil
def ZT:type_of%@List.getElem?_append_right:=@List.getElem?_append_right
def ZU:type_of%@List.length_nil:=@List.length_nil
def ZV:type_of%@Classical.byContradiction:=@Classical.byContradiction
def ZW:type_of%@List.append_nil:=@List.append_nil
def ZX:type_of%@Nat.lt_of_lt_of_le:=@Nat.lt_of_lt_of_le
def ZY:type_of%@List.eq_nil_of_length_eq_zero:=@List.eq_nil_of_length_eq_zero
def ZZ:type_of%@Option.map_some:=@Option.map_some
def Z0:type_of%@Option.isSome_some:=@Option.isSome_some
def Z1:type_of%@Bool.and_self:=@Bool.and_self
def Z2:type_of%@List.map_map:=@List.map_map
def Z3:type_of%@Option.bind_eq_some_iff:=@Option.bind_eq_some_iff
def Z4:type_of%@List.mem_iff_getElem?:=@List.mem_iff_getElem?
def Z5:type_of%@Array.getElem?_toList:=@Array.getElem?_toList
def Z6:type_of%@Option.isSome_none:=@Option.isSome_none
def Z7:type_of%@Option.bind_some:=@Option.bind_some
def Z8:type_of%@List.foldl_cons:=@List.foldl_cons
def Z9:type_of%@Array.getElem?_eq_some_iff:=@Array.getElem?_eq_some_iff
def Ya:type_of%@List.take_zero:=@List.take_zero
def Yb:type_of%@List.mem_filter:=@List.mem_filter
def Yc:type_of%@List.getElem?_of_mem:=@List.getElem?_of_mem
def Yd:type_of%@Nat.le_succ:=@Nat.le_succ
def Ye:type_of%@List.getElem?_cons_succ:=@List.getElem?_cons_succ
def Yf:type_of%@List.take_succ_cons:=@List.take_succ_cons
def Yg:type_of%@Bool.eq_iff_iff:=@Bool.eq_iff_iff
def Yh:type_of%@List.size_toArray:=@List.size_toArray
def Yi:type_of%@Nat.add_assoc:=@Nat.add_assoc
def Yj:type_of%@Nat.add_mul:=@Nat.add_mul
def Yk:type_of%@List.getElem?_cons_zero:=@List.getElem?_cons_zero
def Yl:type_of%@Option.getD_some:=@Option.getD_some
def Ym:type_of%@List.drop_zero:=@List.drop_zero
def Yn:type_of%@Int.eq_ofNat_of_zero_le:=@Int.eq_ofNat_of_zero_le
def Yo:type_of%@List.getD_eq_getElem?_getD:=@List.getD_eq_getElem?_getD
def Yp:type_of%@and_true:=@and_true
def Yq:type_of%@List.take_append_of_le_length:=@List.take_append_of_le_length
def Yr:type_of%@Option.map_eq_some_iff:=@Option.map_eq_some_iff
def Ys:type_of%@decide_false:=@decide_false
def Yt:type_of%@Nat.lt_succ_self:=@Nat.lt_succ_self
def Yu:type_of%@List.take_length:=@List.take_length
def Yv:type_of%@List.map_congr_left:=@List.map_congr_left
def Yw:type_of%@List.length_filter_lt_length_iff_exists:=@List.length_filter_lt_length_iff_exists
def Yx:type_of%@Array.getElem?_append_left:=@Array.getElem?_append_left
def Yy:type_of%@List.pairwise_cons:=@List.pairwise_cons
def Yz:type_of%@List.nil_append:=@List.nil_append
def YA:type_of%@List.cons_append:=@List.cons_append
def YB:type_of%@or_false:=@or_false
def YC:type_of%@List.drop_succ_cons:=@List.drop_succ_cons
def YD:type_of%@List.flatten_cons:=@List.flatten_cons
def YE:type_of%@Option.isSome_iff_exists:=@Option.isSome_iff_exists
def YF:type_of%@Option.some.inj:=@Option.some.inj
def YG:type_of%@List.nodup_cons:=@List.nodup_cons
def YH:type_of%@List.set_cons_zero:=@List.set_cons_zero
def YI:type_of%@List.set_cons_succ:=@List.set_cons_succ
def YJ:type_of%@List.length_eq_zero_iff:=@List.length_eq_zero_iff
def YK:type_of%@decide_true:=@decide_true
def YL:type_of%@List.length_drop:=@List.length_drop
def YM:type_of%@List.length_take:=@List.length_take
def YN:type_of%@Bool.not_false:=@Bool.not_false
def YO:type_of%@List.getElem?_inj:=@List.getElem?_inj
def YP:type_of%@List.getElem?_eq_none:=@List.getElem?_eq_none
def YQ:type_of%@beq_self_eq_true:=@beq_self_eq_true
def YR:type_of%@List.filter_cons:=@List.filter_cons
def YS:type_of%@List.getElem?_take:=@List.getElem?_take
def YT:type_of%@Bool.not_true:=@Bool.not_true
def YU:type_of%@not_or:=@not_or
def YV:type_of%@Array.size_append:=@Array.size_append
def YW:type_of%@Option.bind_assoc:=@Option.bind_assoc
def YX:type_of%@List.nodup_append:=@List.nodup_append
def YY:type_of%@List.takeWhile_cons:=@List.takeWhile_cons
def YZ:type_of%@Prod.mk.injEq:=@Prod.mk.injEq
def Y0:type_of%@Bool.and_true:=@Bool.and_true
def Y1:type_of%@Nat.eq_of_mul_eq_mul_right:=@Nat.eq_of_mul_eq_mul_right
def Y2:type_of%@Array.getElem?_eq_getElem:=@Array.getElem?_eq_getElem
def Y3:type_of%@List.pairwise_iff_getElem:=@List.pairwise_iff_getElem
def Y4:type_of%@Bool.or_eq_true:=@Bool.or_eq_true
def Y5:type_of%@List.ext_getElem?:=@List.ext_getElem?
def Y6:type_of%@List.mem_of_mem_take:=@List.mem_of_mem_take
def Y7:type_of%@List.foldl_append:=@List.foldl_append
def Y8:type_of%@List.getElem?_set:=@List.getElem?_set
def Y9:type_of%@List.getElem?_take_of_lt:=@List.getElem?_take_of_lt
def za:type_of%@List.mem_map_of_mem:=@List.mem_map_of_mem
def zb:type_of%@Nat.mod_eq_of_lt:=@Nat.mod_eq_of_lt
def zc:type_of%@Nat.le_mul_of_pos_right:=@Nat.le_mul_of_pos_right
def zd:type_of%@Nat.beq_refl:=@Nat.beq_refl
def ze:type_of%@Nat.sub_zero:=@Nat.sub_zero
def zf:type_of%@List.getElem?_drop:=@List.getElem?_drop
def zg:type_of%@Nat.lt_or_ge:=@Nat.lt_or_ge
def zh:type_of%@Option.map_none:=@Option.map_none
def zi:type_of%@List.find?_cons:=@List.find?_cons
def zj:type_of%@List.getElem?_toArray:=@List.getElem?_toArray
def zk:type_of%@Nat.le_div_iff_mul_le:=@Nat.le_div_iff_mul_le
def zl:type_of%@Array.mem_of_getElem?:=@Array.mem_of_getElem?
def zm:type_of%@List.take_append_drop:=@List.take_append_drop
def zn:type_of%@List.flatMap_cons:=@List.flatMap_cons
def zo:type_of%@Int.emod_eq_of_lt:=@Int.emod_eq_of_lt
def zp:type_of%@Int.toNat_natCast:=@Int.toNat_natCast
def zq:type_of%@List.mem_of_mem_drop:=@List.mem_of_mem_drop
def zr:type_of%@Nat.le_of_eq:=@Nat.le_of_eq
def zs:type_of%@List.getElem_mem:=@List.getElem_mem
def zt:type_of%@List.all_eq_true:=@List.all_eq_true
def zu:type_of%@Nat.le_add_right:=@Nat.le_add_right
def zv:type_of%@List.set_nil:=@List.set_nil
def zw:type_of%@List.filter_toArray:=@List.filter_toArray
def zx:type_of%@List.flatten_append:=@List.flatten_append
def zy:type_of%@List.cons.injEq:=@List.cons.injEq
def zz:type_of%@beq_iff_eq:=@beq_iff_eq
def zA:type_of%@Int.natCast_nonneg:=@Int.natCast_nonneg
def zB:type_of%@List.find?_eq_none:=@List.find?_eq_none
def zC:type_of%@List.drop_drop:=@List.drop_drop
def zD:type_of%@Nat.le_of_lt:=@Nat.le_of_lt
def zE:type_of%@Nat.lt_trichotomy:=@Nat.lt_trichotomy
def zF:type_of%@Nat.zero_mul:=@Nat.zero_mul
def zG:type_of%@Nat.not_lt:=@Nat.not_lt
def zH:type_of%@Nat.mul_comm:=@Nat.mul_comm
def zI:type_of%@true_and:=@true_and
def zJ:type_of%@and_self:=@and_self
def zK{p q:Prop}(a:q)(h:q->p:=by intro h;omega):p:=h a
def zL(a b:Nat)(h:b<=a:=by omega):decide ((a:Int)<(b:Int))=false:=decide_eq_false (by omega)
def zM(a b:Nat)(h:a<b:=by omega):decide ((a:Int)<(b:Int))=true:=decide_eq_true (by omega)
def zN{α:Type}(l:List α)(i:Nat)(h:i<l.length:=by omega):∃x,l[i]? =some x:=⟨_,List.getElem?_eq_getElem h⟩
def zX{p:Prop}(h:p:=by intro x y z a;obtain⟨H,a,_⟩:=a;cases a):p:=h
def zY{p:Prop}(h:p:=by intro x y z a;obtain⟨E,H,a,_⟩:=a;cases a):p:=h
def zZ{p:Prop}(h:p:=by simp only[Zf];omega):p:=h
def z1{p:Prop}(h:p:=by simp only[Zc];omega):p:=h
end Go
namespace Go.aC
noncomputable section
inductive B(α:Type) where
 |nil|node (v:Option α) (l r:B α)
 deriving Inhabited
universe M
def a8{α:Type M}(c:Bool)(t u:α):α:=Bool.rec (motive:=λ_=>α) u t c
def B.get{α:Type}(t:B α):Nat->Option α:=
 B.rec (motive:=λ_=>Nat->Option α) (λ_=>none)
  (λv _ _ a b i=>Nat.rec (motive:=λ_=>Option α) v (λE _=>a8 (Nat.beq (Nat.mod E 2) 0) (a (Nat.div E 2)) (b (Nat.div E 2))) i) t
def fx{α cz:Type}(t:B α)(q:B α->cz):cz:=
 B.rec (motive:=λ_=>cz) (q .nil) (λv l r _ _=>q (.node v l r)) t
def B.kI{α:Type}(f:Nat):B α->Nat->Option α->B α:=
 Nat.rec (motive:=λ_=>B α->Nat->Option α->B α) (λt _ _=>t)
  (λ_ U t i a=>B.rec (motive:=λ_=>B α)
   (Nat.rec (motive:=λ_=>B α) (.node a .nil .nil) (λE _=>a8 (Nat.beq (Nat.mod E 2) 0)
    (fx (U .nil (Nat.div E 2) a) λb=> .node none b .nil) (fx (U .nil (Nat.div E 2) a) λc=> .node none .nil c)) i)
   (λv l r _ _=>Nat.rec (motive:=λ_=>B α) (.node a l r) (λE _=>a8 (Nat.beq (Nat.mod E 2) 0)
    (fx (U l (Nat.div E 2) a) λb=> .node v b r) (fx (U r (Nat.div E 2) a) λc=> .node v l c)) i) t) f
def kv{cz:Type}(n:Nat)(q:Nat->cz):cz:=Nat.rec (motive:=λ_=>cz) (q 0) (λm _=>q (Nat.succ m)) n
def Ab{cz:Type}(n:Int)(q:Int->cz):cz:=
 Int.rec (motive:=λ_=>cz) (λm=>kv m λm=>q (.ofNat m)) (λm=>kv m λm=>q (.negSucc m)) n
def cH{α:Type}(l:List (Nat×α)):Nat->Option α:=
 List.rec (motive:=λ_=>Nat->Option α) (λ_=>none) (λp _ U E=>Prod.rec (motive:=λ_=>Option α) (λa b=>a8 (Nat.beq a E) (some b) (U E)) p) l
def B.set{α:Type}(t:B α)(i:Nat)(a:Option α):B α:=B.kI (i+1) t i a
def B.ofList{α:Type}:List α->Nat->B α->B α
 |[],_,t=>t|a::l,i,t=>fx (t.set i (some a)) λes=>ofList l (i+1) es
def B.g1{α:Type}(t:B α):Nat->Nat->Option (List α)
 |_,0=>some []|J,n+1=>match t.get J with
  |none=>none|some a=>match g1 t (J+1) n with
   |none=>none|some l=>some (a::l)
def kE{α:Type}(l:List α):Nat->Option α:=
 List.rec (motive:=λ_=>Nat->Option α) (λ_=>none) (λa _ U i=>Nat.rec (motive:=λ_=>Option α) (some a) (λE _=>U E) i) l
inductive y where
 |bool (b:Bool)|int (q:IntKind) (n:Int)|str (s:List Nat)|ptr (b J:Nat)|bE|slice (b J len cap:Nat)|cy (b J len aO:Nat)|au|map (m:Nat)|gs|func (fn:Fn) (first a:List y)|nilFunc|iface (t:Nat) (v:y)|nilIface|agg (cs:List y)|tuple (aF:List y)
 deriving Inhabited
def y.cells:y->List y
 | .agg cs=>cs|v=>[v]
def undef:y:=.tuple []
def q2{α cz:Type}(f:α->Option cz):List α->Option (List cz)
 |[]=>some []|a::l=>match f a with
  |none=>none|some b=>match q2 f l with
   |none=>none|some r=>some (b::r)
def px:Nat->Value->Option y
 |0,_=>none|n+1,v=>match v with
  | .bool b=>some (.bool b)| .int q n=>some (.int q n)| .string s=>some (.str (s.data.toList.map (·.toNat)))| .pointer none=>some .bE| .slice none 0 0=>some .au| .map none=>some .gs| .func (.func f) ⟨[]⟩ ⟨[]⟩=>some (.func (.func f) [] [])| .nilFunc=>some .nilFunc| .iface t v=>match px n v with|some a=>some (.iface t a)|none=>none
  | .nilIface=>some .nilIface| .agg cs=>match q2 (px n) cs.toList with|some l=>some (.agg l)|none=>none
  | .tuple cs=>match q2 (px n) cs.toList with|some l=>some (.tuple l)|none=>none
  |_=>none
def rf(v:Value):Option y:=px 20 v
inductive xQ where
 |fn (fn:Fn) (a:List y)|collected (r:Nat)
structure eA where
 target:xQ
 args:List y
inductive it where
 |own|marked|grow (cl:List Nat)|fD
 deriving Inhabited
inductive R where
 |cells (c:B y) (size:Nat) (st:it)|map (a:List (y×y×Nat)) (bq:Nat)|look (a:List (y×y))|iI (s:List Nat) (pos:Nat)|e7 (m:Option Nat) (b:Nat) (seen:List Nat) (g:Nat)|q4 (m b n:Nat) (bz:List Nat) (st:Nat) (f:Option Nat)|loop (state:LoopState) (pending:Option Code) (fn:Nat) (n ac:Nat) (z:B y) (params:List Nat) (assign body:Code) (defers:Nat)|deferred (d:Option (List eA))
structure ai where
 P:Program
 G:B R
 aD:Nat
 ez:Nat->List y->Option y
 i6:Nat
def F(C:ai)(j:B R)(b:Nat):Option R:=
 a8 (Nat.blt b C.aD) (C.G.get b) (j.get (Nat.sub b C.aD))
def aI(C:ai)(j:B R)(b:Nat)(J:Option R):B R:=j.set (Nat.sub b C.aD) J
def eN(C:ai)(b:Nat):Bool:=Nat.ble C.aD b
structure kL where
 v:y
 recovered:Bool
inductive gw where
 |run|returning|panicking (chain:List kL)
inductive gc where
 |v (E:Nat)|t (n:Nat)|c (a:y)
inductive fM where
 |q5 (x:gc)|pick (c a b:gc)|df (a:gc)|pk (n:Nat) (a:gc)|off (d:Nat) (x:gc)|pf (n aO:Nat) (x i:gc)|pg (aO:Nat) (x i:gc)|q8 (x:gc)|uv (op:BinOp) (x h:gc)|ext (i:Nat) (x:gc)|st (n:Nat) (a v:gc)|call (f:Nat) (args:List gc)|eP (bi:List (Nat×Nat)) (J:Op)|make (bi:List (Nat×Nat)) (J:Op)|dc (bi:List (Nat×Nat)) (J:Op)
structure de where
 i:Nat
 g:Option (Nat×Bool)
 op:fM
structure mN where
 lK:List de
 Bi:List de
 dc:Option de
inductive ci where
 |code (c:Code)|inBlock (id:Nat)|inLoop (body:Code)|inScope (body:Code)|tj (ae:Array Oper) (ad:List (Nat×y)) (rest:List de) (fin:List (Nat×Nat))|drawn (ae:Array Oper) (base:Nat) (ad:List (Nat×y)) (gT:List mN) (fin:List (Nat×Nat))|lp (ae:Array Oper) (ad:List (Nat×y)) (e:Nat) (rest:List de) (fin:List (Nat×Nat))|oq (ae:Array Oper) (base:Nat) (ad:List (Nat×y)) (e:Nat) (gT:List mN) (fin:List (Nat×Nat))|inRangeFunc (l:Nat)|endRangeFunc (l:Nat)|beginRound
structure d3 where
 fn:Nat
 n:Nat
 ac:Nat
 z:B y
 todo:List ci
 defers:List eA
 mode:gw
 deferred:Bool
 roundOf:Option Nat
section ae
variable(C:ai)
def fd(t:Nat):Option Nat:=match C.P.info? t with|some i=>some i.size|none=>none
def kf(t:Nat):Option y:=match C.P.info? t with|some i=>(match i.zero with|some v=>rf v|none=>none)|none=>none
def qO(t:Nat):Option Bool:=match C.P.underlying t with
 |some (.struct _)=>some true|some (.array _ _)=>some true|some _=>some false|none=>none
def iH:List y->Nat->List y->List y
 |cs,_,[]=>cs|cs,J,v::l=>iH (cs.set J v) (J+1) l
def o4(a:Nat->Option (Nat×Nat)):List y->List (Nat×y)->Option (List y)
 |cells,[]=>some cells|cells,(i,v)::rest=>match a i with
  |none=>none|some (off,size)=>
   a8 (Nat.beq v.cells.length size&&Nat.ble (off+size) cells.length) (o4 a (iH cells off v.cells) rest)<|none
def fc:Nat->List y->List y
 |0,_=>[]|n+1,aw=>aw++fc n aw
def nW(ab:Operand->Option y):List (Nat×Operand)->Option (List (Nat×y))
 |[]=>some []|(i,x)::l=>match ab x,nW ab l with|some v,some r=>some ((i,v)::r)|_,_=>none
def jT(ab:Operand->Option y):List Operand->Option (List y)
 |[]=>some []|x::l=>match ab x,jT ab l with|some v,some r=>some (v::r)|_,_=>none
def BF(a:List Field)(i:Nat):Option (Nat×Nat):=
 match kE a i with
 |some f=>(match fd C f.type with|some s=>some (f.offset,s)|none=>none)|none=>none
def w2:List Field->Bool
 |[]=>true|f::l=>(match fd C f.type with|some _=>true|none=>false)&&w2 l
def vF(t:Nat)(b:List (Nat×y)):Option y:=
 match kf C t with
 |none=>none|some aw=>match C.P.underlying t with
  |some (.struct a)=>a8 (w2 C a.toList) (match o4 (BF C a.toList) aw.cells b with|some cs=>some (.agg cs)|none=>none) none|some (.array _ cp)=>(match fd C cp with
   |some s=>(match o4 (λi=>some (i*s,s)) aw.cells b with|some cs=>some (.agg cs)|none=>none)|none=>none)
  |_=>none
def p8(t:Nat)(cs:List y)(off:Nat):Option y:=
 match qO C t,fd C t with
 |some true,some s=>some (.agg ((cs.drop off).take s))|some false,_=>kE cs off|_,_=>none
def hC:List Nat->List Nat->Bool
 |[],[]=>true|a::x,b::h=>Nat.beq a b&&hC x h|_,_=>false
def pw:List Nat->List Nat->Bool
 |_,[]=>false|[],_::_=>true|a::x,b::h=>Nat.blt a b||(Nat.beq a b&&pw x h)
def ta(j:B R)(b J:Nat):Bool:=match F C j b with
 |some (.cells _ n .own)=>eN C b&&Nat.blt J n|_=>false
def pp(j:B R)(b J:Nat):Bool:=match F C j b with
 |some (.cells _ _ .fD)=>false|some (.cells _ n _)=>Nat.blt J n|_=>false
def ptrEq(j:B R)(b J a dH:Nat):Option Bool:=
 a8 (Nat.beq b a) (some (Nat.beq J dH)) (a8 (ta C j b J&&pp C j a dH||ta C j a dH&&pp C j b J) (some false) none)
def p6(eq:Nat->y->y->Option Bool):List Field->List y->List y->Option Bool
 |[],_,_=>some true|f::fR,c,d=>
  a8 (f.name== "_") none<|
  match p8 C f.type c f.offset,p8 C f.type d f.offset with
  |some a,some b=>(match eq f.type a b with
   |some true=>p6 eq fR c d|some false=>some false|none=>none)
  |_,_=>none
def i1(q a:IntKind):Bool:=match q,a with
 | .i8,.i8=>true| .i16,.i16=>true| .i32,.i32=>true| .i64,.i64=>true
 | .u8,.u8=>true| .u16,.u16=>true| .u32,.u32=>true| .u64,.u64=>true
 |_,_=>false
def sm(a b:Bool):Bool:=match a,b with|true,true=>true|false,false=>true|_,_=>false
def jX(x h:Int):Bool:=match x,h with
 | .ofNat a,.ofNat b=>Nat.beq a b| .negSucc a,.negSucc b=>Nat.beq a b|_,_=>false
def m5(x h:Int):Bool:=match x,h with
 | .ofNat a,.ofNat b=>Nat.blt a b| .negSucc a,.negSucc b=>Nat.blt b a| .negSucc _,.ofNat _=>true| .ofNat _,.negSucc _=>false
def f3(j:B R):Nat->Nat->y->y->Option Bool
 |0,_,_,_=>none|d+1,t,x,h=>
  match C.P.underlying t,x,h with
  |some .bool,.bool a,.bool b=>some (sm a b)|some (.int _),.int q a,.int l b=>a8 (i1 q l) (some (jX a b)) none|some .string,.str a,.str b=>some (hC a b)|some (.pointer _),.bE,.bE=>some true|some (.pointer _),.bE,.ptr _ _=>some false|some (.pointer _),.ptr _ _,.bE=>some false|some (.pointer u),.ptr b J,.ptr f dH=>
   (
    match fd C u with
    |some s=>a8 (Nat.beq s 0) none (ptrEq C j b J f dH)|none=>none)
  |some (.interface _),.nilIface,.nilIface=>some true|some (.interface _),.nilIface,.iface _ _=>some false|some (.interface _),.iface _ _,.nilIface=>some false|some (.interface _),.iface c vc,.iface ty m=>a8 (Nat.beq c ty) (match C.P.info? c with
   |some i=>a8 i.comparable (f3 j d c vc m) none|none=>none) (some false)
  |some (.slice _),.au,.au=>some true|some (.slice _),.au,.slice .. =>some false|some (.slice _),.au,.cy .. =>some false|some (.slice _),.slice ..,.au=>some false|some (.slice _),.cy ..,.au=>some false|some (.map _ _),.gs,.gs=>some true|some (.map _ _),.gs,.map _=>some false|some (.map _ _),.map _,.gs=>some false|some (.func _ _ _),.nilFunc,.nilFunc=>some true|some (.func _ _ _),.nilFunc,.func .. =>some false|some (.func _ _ _),.func ..,.nilFunc=>some false|some (.struct g),.agg n,.agg p=>a8 (C.P.stoodInHeld t) none (p6 C (f3 j d) g.toList n p)|_,_,_=>none
def im(q:IntKind)(n:Int):Int:=
 match q with
 | .i64=>(λm:Int=>a8 (decide (m<9223372036854775808)) m (m-18446744073709551616)) (n%18446744073709551616)| .u64=>n%18446744073709551616| .u8=>n%256|q=>q.wrap n
def hf(q:IntKind)(n:Int):Option y:=Ab n λn=>some (.int q n)
def gf(q:IntKind)(n:Int):Option y:=Ab (im q n) λn=>some (.int q n)
def iz(b:Bool):Option y:=a8 b (some (.bool true)) (some (.bool false))
def gB(op:BinOp):IntKind->Int->Int->Option y:=
 match op with
 | .add=>λq x h=>gf q (x+h)| .sub=>λq x h=>gf q (x-h)| .mul=>λq x h=>gf q (x*h)| .quo=>λq x h=>a8 (jX h 0) none (gf q (x.tdiv h))| .rem=>λq x h=>a8 (jX h 0) none (hf q (x.tmod h))| .and=>λq x h=>gf q ((BitVec.ofInt q.bits x&&& BitVec.ofInt q.bits h).toNat)| .or=>λq x h=>gf q ((BitVec.ofInt q.bits x|||BitVec.ofInt q.bits h).toNat)| .xor=>λq x h=>gf q ((BitVec.ofInt q.bits x^^^BitVec.ofInt q.bits h).toNat)| .andNot=>λq x h=>gf q ((BitVec.ofInt q.bits x&&& ~~~ BitVec.ofInt q.bits h).toNat)| .eql=>λ_ x h=>iz (jX x h)| .neq=>λ_ x h=>iz (!jX x h)| .lss=>λ_ x h=>iz (m5 x h)| .leq=>λ_ x h=>iz (!m5 h x)| .gtr=>λ_ x h=>iz (m5 h x)| .geq=>λ_ x h=>iz (!m5 x h)|_=>λ_ _ _=>none
def tL(op:BinOp)(q:IntKind)(x h:Int):Option y:=
 a8 (m5 h 0) none
 (match op with
 | .shl=>gf q (x*2^(min h.toNat q.bits))| .shr=>hf q (x.fdiv (2^(min h.toNat q.bits)))|_=>none)
def gF(op:BinOp):Bool:=match op with| .shl| .shr=>true|_=>false
def oP(op:BinOp)(x h:List Nat):Option y:=
 match op with
 | .add=>a8 (Nat.ble (x.length+h.length) 1000000000) (some (.str (x++h)))<|none
 | .eql=>iz (hC x h)| .neq=>iz (!hC x h)| .lss=>iz (pw x h)| .leq=>iz (pw x h||hC x h)| .gtr=>iz (!(pw x h||hC x h))| .geq=>iz (!pw x h)|_=>none
def aH(op:BinOp)(x h:y):Option y:=
 match x,h with
 | .int q a,.int c b=>a8 (gF op) (tL op q a b) (a8 (i1 q c) (gB op q a b) none)|_,_=>none
def sw(t:Nat)(a:Bool)(x h:y):Bool:=match x,h with
 | .nilIface,.nilIface=>a||(match C.P.underlying t with|some (.interface b)=>b.isEmpty|_=>false)
 | .agg _,.agg _=> !C.P.eqGuardType C.P.depth t|_,_=>true
def b0(j:B R)(op:BinOp)(t:Nat)(c:Bool)(x h:y):Option y:=
 match x,h with
 | .int q a,.int d b=>aH op (.int q a) (.int d b)| .str a,.str b=>oP op a b|x,h=>a8 (sw C t c x h) (match op with
  | .eql=>(match f3 C j 50 t x h with|some b=>iz b|none=>none)| .neq=>(match f3 C j 50 t x h with|some b=>iz (!b)|none=>none)|_=>none) none
def dP(op:UnOp)(x:y):Option y:=
 match op,x with
 | .neg,.int q n=>gB .sub q 0 n| .xor,.int q n=>gB .xor q (if q.signed then -1 else q.max) n| .not,.bool b=>iz (!b)|_,_=>none
def ym(abS dst:Nat)(x:y):Option y:=
 match C.P.underlying abS,C.P.underlying dst,x with
 |some _,some (.int q),.int _ n=>gf q n|some _,some .string,.str s=>some (.str s)|_,_,_=>none
def hg(v:y):Option Nat:=match v with| .int _ n=>(match n with| .ofNat n=>some n|_=>none)|_=>none
def hA(J:Option y)(m d:Nat):Option Nat:=match J with
 |some v=>(match hg v with|some n=>a8 (Nat.ble n m) (some n)<|none|none=>none)|none=>some d
def gd(len cap:Nat)(aW af a:Option y):Option (Nat×Nat×Nat):=
 match hA a cap cap with
 |none=>none|some m=>match (match af,a with
   |none,some _=>none|af,_=>hA af m len)with
  |none=>none|some e=>match hA aW e 0 with
   |none=>none|some l=>some (l,e,m)
def pA(ab:Operand->Option y):Option Operand->Option (Option y)
 |none=>some none|some x=>match ab x with|some v=>some (some v)|none=>none
def j9(j:B R)(b:Nat):Option Nat:=match F C j b with|some (.cells _ n (.grow _))=>some n|some (.cells _ n .fD)=>some n|_=>none
def vL(j:B R)(t:Nat)(x:y)(aW af a:Option y):Option y:=
 match C.P.underlying t,x with
 |some .string,.str s=>(match a with
  |some _=>none|none=>(match gd s.length s.length aW af none with
   |some (l,e,_)=>some (.str ((s.drop l).take (e-l)))|none=>none))
 |some (.slice cp),.slice b J len cap=>(match gd len cap aW af a,fd C cp with
  |some (l,e,m),some aO=>some (.slice b (a8 (Nat.beq m l) (J)<|J+l*aO) (e-l) (m-l))|_,_=>none)
 |some (.slice cp),.au=>(match gd 0 0 aW af a,fd C cp with
  |some _,some _=>some .au|_,_=>none)
 |some (.slice cp),.cy b J len aO=>(match fd C cp,j9 C j b with
  |some c,some n=>a8 (Nat.beq aO c&&Nat.blt 0 aO) ((match gd len ((n-J)/aO) aW af a with
    |some (l,e,m)=>(match a with
     |some _=>some (.slice b (a8 (Nat.beq m l) (J)<|J+l*aO) (e-l) (m-l))|none=>a8 (Nat.blt l ((n-J)/aO)||Nat.beq l 0) (some (.cy b (J+l*aO) (e-l) aO))<|none)
    |none=>none))<|none
  |_,_=>none)
 |some (.array n cp),.ptr b J=>(match gd n n aW af a,fd C cp with
  |some (l,e,m),some aO=>some (.slice b (a8 (Nat.beq m l) (J)<|J+l*aO) (e-l) (m-l))|_,_=>none)
 |_,_=>none
def vI(t:Nat)(x i:y):Option y:=
 match hg i with
 |none=>none|some i=>match C.P.underlying t,x with
  |some (.array n cp),.agg cs=>(match fd C cp with|some aO=>a8 (Nat.blt i n) (p8 C cp cs (i*aO))<|none|none=>none)|some .string,.str s=>(match kE s i with|some c=>some (.int .u8 (Int.ofNat c))|none=>none)|_,_=>none
def cellsOf(j:B R)(b:Nat):Option (B y):=match F C j b with
 |some (.cells c _ _)=>some c|_=>none
def ay(j:B R)(a:y):Option y:=
 match a with
 | .ptr b J=>(match cellsOf C j b with
   |some c=>c.get J|none=>none)
 |_=>none
def b4(j:B R)(n:Nat)(a:y):Option y:=
 match a with
 | .ptr b J=>(match cellsOf C j b with
   |some c=>(match c.g1 J n with|some l=>some (.agg l)|none=>none)|none=>none)
 |_=>none
def gW(j:B R)(t:Nat)(a:y):Option y:=
 match qO C t,fd C t with
 |some true,some s=>b4 C j s a|some false,_=>ay C j a|_,_=>none
def ha:Nat->Nat->y->Bool
 |0,_,_=>false|n+1,t,v=>match C.P.underlying t,v with
  |some (.interface _),.iface d x=>(match C.P.info? d with|some i=>i.comparable&&ha n d x|none=>false)|some (.interface _),.nilIface=>true|some (.interface _),_=>false|some (.struct a),.agg cs=>a.toList.all λf=>f.name== "_"||(match p8 C f.type cs f.offset with|some p=>ha n f.type p|none=>false)
  |some (.struct _),_=>false|some (.array _ _),_=>false|some _,_=>true|none,_=>false
def hO:Nat->y->y->Bool
 |0,_,_=>false|n+1,x,h=>match x,h with
  | .bool a,.bool b=>sm a b| .int q a,.int d b=>i1 q d&&jX a b| .str a,.str b=>hC a b| .ptr b J,.ptr c dH=>Nat.beq b c&&Nat.beq J dH| .bE,.bE=>true| .nilIface,.nilIface=>true| .iface t v,.iface es f=>Nat.beq t es&&hO n v f| .agg a,.agg b=>pi n a b|_,_=>false
 where
 pi (n:Nat):List y->List y->Bool
 |[],[]=>true|x::a,h::b=>hO n x h&&pi n a b|_,_=>false
def findKey(j:B R)(t:Nat)(q:y):List (y×y×Nat)->Nat->Option (Option (Nat×y))
 |[],_=>some none|(b,v,_)::a,i=>match f3 C j 20 t q b with
  |some true=>some (some (i,v))|some false=>findKey j t q a (i+1)|none=>none
def jz(j:B R)(t:Nat)(q:y):List (y×y)->Option (Option y)
 |[]=>some none|(b,v)::a=>match jz j t q a,f3 C j 20 t q b with
  |some r,some false=>some r|some none,some true=>some (some v)|_,_=>none
def sV(r:Option (Option y)):Option (Option (Nat×y)):=match r with
 |some (some v)=>some (some (0,v))|some none=>some none|none=>none
def vK(j:B R)(t:Nat)(m q:y)(ok:Bool):Option y:=
 match C.P.underlying t with
 |some (.map dZ b)=>
  (match (match m with
   | .gs=>a8 (ha C 20 dZ q) (some none) none| .map r=>(match F C j r with|some (.map a _)=>a8 (ha C 20 dZ q) (findKey C j dZ q a 0) none|some (.look a)=>a8 (ha C 20 dZ q) (sV (jz C j dZ q a)) none|_=>none)|_=>none)with
  |none=>none|some none=>(match kf C b with|some aw=>some (a8 (ok) (.tuple [aw,.bool false])<|aw)|none=>none)|some (some (_,v))=>some (a8 (ok) (.tuple [v,.bool true])<|v))
 |_=>none
def vJ(j:B R)(t:Nat)(x:y):Option y:=
 match C.P.underlying t,x with
 |some .string,.str s=>hf .i64 (Int.ofNat s.length)|some (.array n _),_=>some (.int .i64 (Int.ofNat n))|some (.pointer bg),_=>(match C.P.underlying bg with|some (.array n _)=>some (.int .i64 (Int.ofNat n))|_=>none)|some (.slice _),.slice _ _ n _=>hf .i64 (Int.ofNat n)|some (.slice _),.cy _ _ n _=>hf .i64 (Int.ofNat n)|some (.slice _),.au=>some (.int .i64 0)|some (.map _ _),.gs=>some (.int .i64 0)|some (.map _ _),.map r=>(match F C j r with|some (.map a _)=>hf .i64 (Int.ofNat a.length)|_=>none)|_,_=>none
def vG(t:Nat)(x:y):Option y:=
 match C.P.underlying t,x with
 |some (.slice _),.slice _ _ _ n=>hf .i64 (Int.ofNat n)|some (.slice _),.au=>some (.int .i64 0)|_,_=>none
def h2(a:Bool):y->List y->Option y
 |v,[]=>some v| .int q x,.int _ h::l=>h2 a (.int q (a8 (a) ((a8 (m5 x h) (h)<|x))<|(a8 (m5 h x) (h)<|x))) l|_,_=>none
def nN:List y->Option (List Nat)
 |[]=>some []| .int .u8 (.ofNat n)::l=>(match nN l with|some r=>some (n%256::r)|none=>none)|_=>none
def gj(j:B R)(b J n:Nat):Option (List y):=
 match cellsOf C j b with
 |some c=>c.g1 J n|none=>a8 (Nat.beq n 0) (some []) none
def si(j:B R)(x:y):Option y:=
 match x with
 | .au=>some (.str [])| .slice b J len _=>(match gj C j b J len with|some l=>(match nN l with|some s=>some (.str s)|none=>none)|none=>none)| .cy b J len _=>(match gj C j b J len with|some l=>(match nN l with|some s=>some (.str s)|none=>none)|none=>none)|_=>none
def Av(t:Nat)(a:Array (Nat×Operand))(_:B R)(ab:Operand->Option y):Option y:=
 match nW ab a.toList with|some b2=>vF C t b2|none=>none
def j0(J:Operand):Bool:=match J with| .const _=>true|_=>false
def wH(op:BinOp)(t:Nat)(x h:Operand)(j:B R)(ab:Operand->Option y):Option y:=
 match ab x,ab h with|some a,some b=>b0 C j op t (j0 x||j0 h) a b|_,_=>none
def AC(op:UnOp)(x:Operand)(_:B R)(ab:Operand->Option y):Option y:=
 match ab x with|some a=>dP op a|none=>none
def uC(s d:Nat)(x:Operand)(j:B R)(ab:Operand->Option y):Option y:=
 match ab x with
 |some a=>(match ym C s d a with
  |some v=>some v|none=>(match C.P.underlying s,C.P.underlying d with
   |some (.slice u),some .string=>(match C.P.underlying u with|some (.int .u8)=>si C j a|_=>none)|_,_=>none))
 |none=>none
def uE(t:Nat)(x:Operand)(_:B R)(ab:Operand->Option y):Option y:=
 match C.P.underlying t,ab x with
 |some (.interface _),_=>none|some _,some v=>some (.iface t v)|_,_=>none
def Ay(fn:Fn)(first c:Array Operand)(_:B R)(ab:Operand->Option y):Option y:=
 match jT ab first.toList,jT ab c.toList with
 |some a,some b=>(match fn with| .func f=>some (.func (.func f) a b)|_=>none)|_,_=>none
def AB(t:Nat)(x:Operand)(aW af a:Option Operand)(j:B R)(ab:Operand->Option y):Option y:=
 match ab x,pA ab aW,pA ab af,pA ab a with
 |some v,some l,some e,some m=>vL C j t v l e m|_,_,_,_=>none
def uD(t:Nat)(x:Operand)(f:Nat)(_:B R)(ab:Operand->Option y):Option y:=
 match C.P.underlying t,ab x with
 |some (.struct b),some (.agg cs)=>(match kE b.toList f with
  |some a=>p8 C a.type cs a.offset|none=>none)
 |_,_=>none
def Az(t:Nat)(x i:Operand)(_:B R)(ab:Operand->Option y):Option y:=
 match ab x,ab i with|some a,some b=>vI C t a b|_,_=>none
def AA(t:Nat)(m q:Operand)(ok:Bool)(j:B R)(ab:Operand->Option y):Option y:=
 match ab m,ab q with|some a,some b=>vK C j t a b ok|_,_=>none
def uB(x:Operand)(a:Nat)(ok:Bool)(_:B R)(ab:Operand->Option y):Option y:=
 match C.P.underlying a,ab x with
 |some (.interface _),_=>none|some _,some .nilIface=>a8 (ok) ((match kf C a with|some aw=>some (.tuple [aw,.bool false])|none=>none))<|none
 |some _,some (.iface t v)=>a8 (Nat.beq t a) (some (a8 (ok) (.tuple [v,.bool true])<|v))<|a8 (ok) ((match kf C a with|some aw=>some (.tuple [aw,.bool false])|none=>none))<|none
 |_,_=>none
def Aw(b:Builtin)(args:Array Operand)(bN:Array TypeId)(j:B R)(ab:Operand->Option y):Option y:=
 match b,jT ab args.toList with
 | .len,some [x]=>(match bN.toList with|t::_=>vJ C j t x|_=>none)| .cap,some [x]=>(match bN.toList with|t::_=>vG C t x|_=>none)| .max,some (x::l)=>h2 true x l| .min,some (x::l)=>h2 false x l|_,_=>none
def Ax(c:Call)(j:B R)(ab:Operand->Option y):Option y:=
 match c with
 |⟨.builtin b,args,bN⟩=>Aw C b args bN j ab|_=>none
def uF:List Nat->Option Nat
 |[]=>none|a::l=>match l with|[]=>some a|_=>uF l
def ma(b:Nat):List (y×y×Nat)->Option (y×y×Nat)
 |[]=>none|u::a=>a8 (Nat.beq u.2.2 b) (some u) (ma b a)
def sO(f:Operand)(j:B R)(ab:Operand->Option y):Option y:=
 match ab f with
 |some (.ptr r 0)=>(match F C j r with
  |some (.e7 (some m) _ seen c)=>(match uF seen,F C j m with
   |some b,some (.map a bq)=>a8 (Nat.beq bq c) (match ma b a with
    |some (q,v,_)=>some (.tuple [q,v])|none=>none) none
   |_,_=>none)
  |some (.q4 m _ _ _ c d)=>(match d,F C j m with
   |some b,some (.map a bq)=>a8 (Nat.beq bq c) (match ma b a with
    |some (q,v,_)=>some (.tuple [q,v])|none=>none) none
   |_,_=>none)
  |_=>none)
 |_=>none
def ix(J:Op):ai->B R->(Operand->Option y)->Option y:=
 match J with
 | .build t n=>λC=>Av C t n| .binOp op t x h _=>λC=>wH C op t x h| .unOp op _ x=>λ_=>AC op x| .convert s d x=>λC=>uC C s d x| .makeInterface t x=>λC=>uE C t x| .makeFunc fn first b=>λ_=>Ay fn first b
 | .slice t x aW af l=>λC=>AB C t x aW af l| .field t x f=>λC=>uD C t x f| .index t x i=>λC=>Az C t x i| .lookup t m q ok=>λC=>AA C t m q ok| .typeAssert x _ a ok=>λC=>uB C x a ok| .entry g=>λC=>sO C g| .call c=>λC=>Ax C c|_=>λ_ _ _=>none
def pG(c:fM):Bool:=match c with
 | .df _| .pk _ _=>true| .eP _ J=>(match J with
   | .lookup .. | .convert .. | .slice .. | .call _| .binOp .. | .entry _=>true|_=>false)
 |_=>false
def qZ(t:Nat)(_:Operand->Option y)(b:Nat):Option (y×R):=
 match kf C t with|some aw=>some (.ptr b 0,.cells (B.ofList aw.cells 0 .nil) aw.cells.length .own)|none=>none
def uJ(x:Operand)(ab:Operand->Option y)(b:Nat):Option (y×R):=
 match ab x with|some v=>some (.ptr b 0,.cells (B.ofList v.cells 0 .nil) v.cells.length .own)|none=>none
def uK(t len:Nat)(a:Array (Nat×Operand))(ab:Operand->Option y)(b:Nat):Option (y×R):=
 match C.P.underlying t,nW ab a.toList with
 |some (.slice cp),some b2=>(match fd C cp,kf C cp with
  |some s,some aw=>a8 (Nat.ble (len*s) 16777216&&Nat.beq aw.cells.length s) ((match o4 (λi=>some (i*s,s)) (fc len aw.cells) b2 with
    |some cs=>some (.slice b 0 len len,.cells (B.ofList cs 0 .nil) cs.length .own)|none=>none))<|none
  |_,_=>none)
 |_,_=>none
def jN(J:Op):ai->(Operand->Option y)->Nat->Option (y×R):=
 match J with
 | .alloc t=>λC=>qZ C t| .box _ x=>λ_=>uJ x| .buildSlice t len a=>λC=>uK C t len a| .makeMap _ none=>λ_ _ b=>some (.map b,.map [] 0)|_=>λ_ _ _=>none
def hy:List Nat->B R->B R
 |[],e=>e|b::l,e=>hy l (aI C e b none)
def ch:B y->Nat->List y->B y
 |c,_,[]=>c|c,J,v::l=>fx (c.set J (some v)) λc=>ch c (J+1) l
def hV(v:y):Bool:=match v with| .agg _=>false| .tuple _=>false|_=>true
def ei:List y->Bool
 |[]=>true|v::l=>hV v&&ei l
def gX(j:B R)(b J:Nat)(aF:List y):Option (B R):=
 match F C j b with
 |some (.cells c n st)=>a8 (Nat.ble (J+aF.length) n&&eN C b&&ei aF) ((match st with
   | .own=>fx (ch c J aF) λc=>fx (aI C j b (some (.cells c n .own))) λj=>some j| .marked=>fx (ch c J aF) λc=>fx (aI C j b (some (.cells c n .marked))) λj=>some j| .grow cl=>fx (ch c J aF) λc=>fx (aI C (hy C cl j) b (some (.cells c n (.grow [])))) λj=>some j|_=>none))<|none
 |_=>none
def f9(j:B R)(aO:Nat)(x:y):Option (Nat×List y):=
 match x with
 | .au=>some (0,[])| .slice b J len _=>(match gj C j b J (len*aO)with|some l=>some (len,l)|none=>none)| .cy b J len _=>(match gj C j b J (len*aO)with|some l=>some (len,l)|none=>none)| .str s=>a8 (Nat.beq aO 1) (some (s.length,s.map λn=>y.int .u8 (Int.ofNat n))) none|_=>none
inductive cj where
 |val (v:y)|cJ (v:y) (j:B R) (k:Nat)|enter (f:Nat) (args:List y)|known (f:Nat) (args:List y) (v:y)|wrote (f:Nat) (args:List y) (j:B R)|round (l:Nat) (args:List y)|defer (d:eA)|recover|panic (v:y)|fork (l:List (y×B R))
def gg(C:ai)(j:B R)(k:Nat)(J:R)(q:Nat->y):Option cj:=
 kv k λk=>fx (aI C j k (some J)) λj=>some (.cJ (q k) j (k+1))
def k4(j:B R)(k n aO:Nat)(l:List y):Option cj:=
 a8 (Nat.ble n 1048576) (gg C j k (.cells (B.ofList l 0 .nil) l.length (.grow [])) λb=> .cy b 0 n aO)<|none
def p9(j:B R)(k:Nat)(b J len aO n:Nat)(l:List y):Option cj:=
 match F C j b with
 |some (
   .cells c size (.grow cl))=>a8 (eN C b)
  (a8 (
   Nat.ble (J+(len+n)*aO) size)
   (match gX C j b (J+len*aO) l with|some S'=>some (.cJ (.cy b J (len+n) aO) S' k)|none=>none)
   (a8 (Nat.ble (len+n) 1048576&&ei l) (a8 (Nat.beq (J+len*aO) size&&Nat.beq J 0)
    (fx (ch c size l) λd=>gg C (aI C j b (some (.cells c size .fD))) k (.cells d (size+l.length) (.grow (b::cl))) λa=> .cy a 0 (len+n) aO)
    (match c.g1 J (len*aO)with
    |some dr=>gg C (aI C (hy C cl j) b none) k (.cells (B.ofList (dr++l) 0 .nil) (dr++l).length (.grow [])) λa=> .cy a 0 (len+n) aO|none=>none)) none)) none
 |_=>none
def kZ(j:B R)(k:Nat)(aO n:Nat)(l:List y)(s:y):Option cj:=
 match s with
 | .au=>k4 C j k n aO l| .slice b J len cap=>a8 (Nat.ble (len+n) cap) ((match gX C j b (J+len*aO) l with|some S'=>some (.cJ (.slice b J (len+n) cap) S' k)|none=>none))<|(match gj C j b J (len*aO)with
    |some dr=>k4 C j k (len+n) aO (dr++l)|none=>none)
 | .cy b J len a=>a8 (Nat.beq a aO) (p9 C j k b J len aO n l)<|none
 |_=>none
def oQ(j:B R)(aO:Nat)(s:y):Option cj:=
 match s with
 | .au=>some (.val .au)| .slice b J len cap=>a8 (Nat.ble len cap) (some (.val (.slice b J len cap))) none| .cy b J len a=>a8 (Nat.beq a aO) (match j9 C j b with
   |some n=>a8 (Nat.ble (J+len*aO) n) (some (.val (.cy b J len a))) none|none=>none) none
 |_=>none
def vH(j:B R)(k:Nat)(st:Nat)(s:y)(n:Nat):Option cj:=
 match C.P.underlying st with
 |some (.slice cp)=>(match C.P.info? cp,kf C cp with
  |some i,some aw=>a8 (Nat.blt 0 i.size&&Nat.ble i.bytes 65536&&Nat.beq aw.cells.length i.size&&Nat.ble n 1048576) (a8 (Nat.beq n 0) (oQ C j i.size s)<|kZ C j k i.size n (fc n aw.cells) s)<|none
  |_,_=>none)
 |_=>none
def I0(i:TypeInfo):Bool:=match i.zero with|some aw=>Nat.beq aw.cells.size i.size|none=>false
def sg(j:B R)(k:Nat)(st:Nat)(s x:y):Option cj:=
 match C.P.underlying st with
 |some (.slice cp)=>(match C.P.info? cp with
  |some i=>(match f9 C j i.size x with
   |some (n,l)=>a8 (Nat.blt 0 i.size&&Nat.ble i.bytes 65536&&I0 i) ((a8 (Nat.beq n 0) (oQ C j i.size s)<|kZ C j k i.size n l s))<|none
   |none=>none)
  |none=>none)
 |_=>none
def adj(j:B R)(k:Nat)(b J m:Nat)(l:List y):Option cj:=
 a8 (Nat.beq m 0) (some (.val (.int .i64 0)))<|
 (match gX C j b J l with|some S'=>some (.cJ (.int .i64 (Int.ofNat m)) S' k)|none=>none)
def tI(j:B R)(k:Nat)(t:Nat)(x:y):Option cj:=
 match C.P.underlying t with
 |some (.slice cp)=>(match fd C cp,kf C cp with
  |some aO,some aw=>a8 (Nat.beq aw.cells.length aO) (match x with
   | .au=>some (.val (.tuple []))| .slice b J len _=>a8 (Nat.beq len 0) (some (.val (.tuple []))) (match gX C j b J (fc len aw.cells)with|some j=>some (.cJ (.tuple []) j k)|none=>none)| .cy b J len _=>a8 (Nat.beq len 0) (some (.val (.tuple []))) (match gX C j b J (fc len aw.cells)with|some j=>some (.cJ (.tuple []) j k)|none=>none)|_=>none) none
  |_,_=>none)
 |_=>none
def setObj(j:B R)(k:Nat)(r:Nat)(J:R)(v:y):Option cj:=
 a8 (eN C r) (fx (aI C j r (some J)) λj=>some (.cJ v j k))<|none
def tJ(j:B R)(k:Nat)(t:Nat)(m q v:y):Option cj:=
 match C.P.underlying t,m with
 |some (.map dZ _),.map r=>(match F C j r with
  |some (.map a bq)=>a8 (ha C 20 dZ q) (match findKey C j dZ q a 0 with
   |some (some (i,_))=>(match kE a i with
    |some (b,_,born)=>a8 (hO 20 b q) (setObj C j k r (.map (a.set i (q,v,born)) bq) undef) none|none=>none)
   |some none=>setObj C j k r (.map (a++[(q,v,bq)]) (bq+1)) undef|none=>none) none
  |_=>none)
 |_,_=>none
def sh(j:B R)(k:Nat)(t:Nat)(m q:y):Option cj:=
 match C.P.underlying t,m with
 |some (.map dZ _),.map r=>(match F C j r with
  |some (.map a bq)=>a8 (ha C 20 dZ q) (match findKey C j dZ q a 0 with
   |some (some (i,_))=>setObj C j k r (.map (a.eraseIdx i) bq) (.tuple [])|some none=>setObj C j k r (.map a bq) (.tuple [])|none=>none) none
  |_=>none)
 |_,_=>none
def xb(x h:y):Bool:=match x,h with
    | .bool a,.bool b=>sm a b| .int q a,.int c b=>i1 q c&&jX a b| .str a,.str b=>hC a b| .au,.au=>true| .bE,.bE=>true| .nilIface,.nilIface=>true|_,_=>false
def rp:List y->List y->Bool
 |[],[]=>true|a::x,b::h=>xb a b&&rp x h|_,_=>false
def known(f:Nat)(args:List y):List (Nat×List y×y)->Option y
 |[]=>none|(g,a,v)::l=>a8 (Nat.beq f g&&rp args a) (some v)<|known f args l
def g9(f:Nat)(args:List y):Option cj:=
 match C.ez f args with
 |some v=>some (.known f args v)|none=>(match C.P.funcs[f]? with
  |some fn=>(match fn.body with
   |some _=>some (.enter f args)|none=>none)
  |none=>none)
def k5(x:Int):List Int->List Int
 |[]=>[x]|h::l=>a8 (m5 h x) (h::k5 x l) (x::h::l)
def d0:List Int->List Int
 |[]=>[]|x::l=>k5 x (d0 l)
def sJ(f:Nat):Bool:=match C.P.funcs[f]? with
 |some fn=>a8 (Nat.beq fn.params.size 1) (fn.name== "slices.Sort[[]int,int]") false|none=>false
def qN:List y->Option (List Int)
 |[]=>some []| .int .i64 n::l=>(match qN l with|some r=>some (n::r)|none=>none)|_=>none
def tM(j:B R)(b J len:Nat):Option (B R):=match gj C j b J len with
 |some l=>(match qN l with
  |some aE=>a8 (Nat.blt 0 len&&Nat.ble len 1000000) (gX C j b J ((d0 aE).map λaw=> .int .i64 aw)) none|none=>none)
 |none=>none
def p7(j:B R)(a:List y):Option (B R):=match a with
 |[.au]=>some j|[.slice b J len _]=>tM C j b J len|[.cy b J len _]=>tM C j b J len|_=>none
def oO(fn:Fn)(a args:List y):Option cj:=
 match fn with
 | .func f=>g9 C f (args++a)| .yield l=>some (.round l args)|_=>none
def jm(j:B R)(t:Nat)(v:y)(name:String)(args:List y):Option cj:=
 match C.P.info? t with
 |some i=>(match i.methods.find? (·.name==name)with
  |some m=>a8 m.path.isEmpty (match m.func,C.P.underlying t with
   |some (f,true),some (.pointer _)=>g9 C f (v::args)|some (f,false),some (.pointer u)=>(match gW C j u v with|some x=>g9 C f (x::args)|none=>none)|some (f,false),some _=>g9 C f (v::args)|_,_=>none) none
  |none=>none)
 |none=>none
def xA(j:B R)(k s:Nat)(a v:y):Option cj:=
 match a with
 | .ptr b J=>a8 (Nat.beq v.cells.length s&&Nat.blt 0 s) ((match gX C j b J v.cells with|some S'=>some (.cJ undef S' k)|none=>none))<|none
 |_=>none
def sG(t:Nat)(m q x:Operand)(j:B R)(k:Nat)(ab:Operand->Option y):Option cj:=
 match ab m,ab q,ab x with
 |some m,some q,some v=>tJ C j k t m q v|_,_,_=>none
def uq(_:Nat)(_ _:Operand)(_:B R)(_:Nat)(_:Operand->Option y):Option cj:=(λ_:ai=>none) C
def un(_ _ _:Operand)(_:B R)(_:Nat)(_:Operand->Option y):Option cj:=(λ_:ai=>none) C
def up(t:Nat)(l c:Operand)(j:B R)(k:Nat)(ab:Operand->Option y):Option cj:=
 match C.P.underlying t,ab l,ab c with
 |some (.slice cp),some l,some c=>(match hg l,hg c,C.P.info? cp,kf C cp with
  |some l,some c,some i,some aw=>a8 (Nat.ble l c&&Nat.ble c 1048576&&Nat.ble i.bytes 65536&&Nat.blt 0 i.size&&Nat.beq aw.cells.length i.size) (gg C j k (.cells (B.ofList (fc c aw.cells) 0 .nil) (c*i.size) .own) λb=> .slice b 0 l c)<|none
  |_,_,_,_=>none)
 |_,_,_=>none
def uo(t:Nat)(r:Operand)(j:B R)(k:Nat)(ab:Operand->Option y):Option cj:=
 match C.P.underlying t,ab r with
 |some (.map _ _),some (.int _ _)=>gg C j k (.map [] 0) λb=> .map b|_,_=>none
def us(s d:Nat)(x:Operand)(j:B R)(k:Nat)(ab:Operand->Option y):Option cj:=
 match C.P.underlying s,C.P.underlying d,ab x with
 |some .string,some (.slice u),some (.str l)=>(match C.P.underlying u with
  |some (.int .u8)=>k4 C j k l.length 1 (l.map λn=>y.int .u8 (Int.ofNat n))|_=>none)
 |some (.slice _),some (.slice u),some (.slice b J len cap)=>(match C.P.underlying u with
  |some (.int .u8)=>a8 (Nat.beq s d&&eN C b) (match F C j b with
   |some (.cells c n .own)=>fx (aI C j b (some (.cells c n .marked))) λj=>some (.cJ (.slice b J len cap) j k)|some (.cells _ _ .marked)=>some (.val (.slice b J len cap))|_=>none) none
  |_=>none)
 |_,_,_=>none
def ur(t:Nat)(x:Operand)(j:B R)(k:Nat)(ab:Operand->Option y):Option cj:=
 match C.P.underlying t,ab x with
 |some .string,some (.str s)=>gg C j k (.iI s 0) λb=> .ptr b 0|some (.map _ _),some .gs=>gg C j k (.e7 none 0 [] 0) λb=> .ptr b 0|some (.map _ _),some (.map r)=>(match F C j r with
  |some (.map _ bq)=>gg C j k (.e7 (some r) bq [] bq) λb=> .ptr b 0|_=>none)
 |_,_=>none
def gH(n:Nat):List Nat->Bool
 |[]=>false|a::l=>Nat.beq n a||gH n l
def fe(seen:List Nat):List (y×y×Nat)->List (y×y×Nat)
 |[]=>[]|u::a=>a8 (gH u.2.2 seen) (fe seen a) (u::fe seen a)
def nJ(a:Nat):List (y×y×Nat)->Bool
 |[]=>true|u::b=>Nat.blt u.2.2 a&&nJ a b
def l0(a:Nat):List (y×y×Nat)->Bool
 |[]=>false|u::b=>Nat.blt u.2.2 a||l0 a b
def qB(C:ai)(j:B R)(r m a bq:Nat)(seen:List Nat):List (y×y×Nat)->List (y×B R)
 |[]=>[]|(q,v,b)::l=>(.tuple [.bool true,q,v],aI C j r (some (.e7 (some m) a (seen++[b]) bq)))::qB C j r m a bq seen l
def iW(i:Operand)(g:Bool)(j:B R)(k:Nat)(ab:Operand->Option y):Option cj:=
 match ab i with
 |some (.ptr r 0)=>a8 (eN C r) (match F C j r,g with
  |some (.iI s pos),true=>a8 (Nat.blt pos s.length) (match kE s pos with
    |some c=>a8 (Nat.blt c 128) (setObj C j k r (.iI s (pos+1)) (.tuple [.bool true,.int .i64 (Int.ofNat pos),.int .i32 (Int.ofNat c)])) none|none=>none)
   (some (.val (.tuple [.bool false])))
  |some (.e7 none _ _ _),false=>some (.val (.tuple [.bool false]))|some (.e7 (some m) d seen f),false=>(match F C j m with
   |some (.map a bq)=>(match fe seen a with
    |[]=>a8 (nJ d a) (a8 (l0 f a||seen.isEmpty||a.isEmpty) (some (.val (.tuple [.bool false]))) none) none|[(q,v,b)]=>a8 (nJ d a&&l0 f a) (setObj C j k r (.e7 (some m) d (seen++[b]) bq) (.tuple [.bool true,q,v])) none|l=>a8 (nJ d a&&l0 f a) (some (.fork (qB C j r m d bq seen l))) none)
   |_=>none)
  |_,_=>none) none
 |_=>none
def Ag(x:Operand)(_:B R)(_:Nat)(ab:Operand->Option y):Option cj:=
 match ab x with|some (.iface t v)=>some (.panic (.iface t v))|_=>none
def Af(c:Call)(_:B R)(_:Nat)(ab:Operand->Option y):Option cj:=
 match c with
 |⟨.value f,args,_⟩=>(match ab f,jT ab args.toList with
  |some (.func fn first b),some a=>some (.defer ⟨.fn fn b,first++a⟩)|_,_=>none)
 |_=>none
def um(b:Builtin)(args:Array Operand)(bN:Array TypeId)(j:B R)(k:Nat)(ab:Operand->Option y):Option cj:=
 match b,jT ab args.toList with
 | .append,some [s,x]=>(match bN.toList with
   |st::e1::_=>(match C.P.underlying e1 with
    |some (.int _)=>(match hg x with|some n=>vH C j k st s n|none=>none)|some (.slice _)=>sg C j k st s x|some .string=>sg C j k st s x|_=>none)
   |_=>none)
 | .recover,some []=>some .recover| .clear,some [x]=>(match bN.toList with
   |t::_=>tI C j k t x|_=>none)
 | .delete,some [m,q]=>(match bN.toList with
   |t::_=>sh C j k t m q|_=>none)
 |_,_=>none
def qE(c:Call)(j:B R)(k:Nat)(ab:Operand->Option y):Option cj:=
 match c with
 |⟨.value f,args,_⟩=>(match ab f,jT ab args.toList with
  |some (.func fn first d),some a=>oO C fn d (first++a)|_,_=>none)
 |⟨.builtin b,args,bN⟩=>um C b args bN j k ab|⟨.invoke r name,args,_⟩=>(match ab r,jT ab args.toList with
  |some (.iface t v),some a=>jm C j t v name a|_,_=>none)
def h1(J:Op):ai->B R->Nat->(Operand->Option y)->Option cj:=
 match J with
 | .mapUpdate t m q x=>λC=>sG C t m q x| .insert t m q x=>λC=>sG C t m q x| .mapEntry t m q=>λC=>uq C t m q| .entryStore _ m s x=>λC=>un C m s x| .makeSlice t l c=>λC=>up C t l c| .makeMap t (some r)=>λC=>uo C t r| .convert s d x=>λC=>us C s d x| .range t x=>λC=>ur C t x| .next b a=>λC=>iW C b a| .panic x=>λ_=>Ag x| .defer c=>λ_=>Af c| .call c=>λC=>qE C c|_=>λ_ _ _ _=>none
end ae
def gD(x:gc):List (Nat×y)->B y->Option y:=
 match x with
 | .v E=>λad _=>cH ad E| .t n=>λ_ z=>z.get n| .c a=>λ_ _=>some a
def o1(ad:List (Nat×y))(z:B y):List gc->Option (List y)
 |[]=>some []|x::l=>match gD x ad z with
  |none=>none|some v=>match o1 ad z l with
   |none=>none|some r=>some (v::r)
def fw(bi:List (Nat×Nat))(ad:List (Nat×y))(z:B y)(J:Operand):Option y:=match J with
 | .tmp t=>(match cH bi t with|some E=>cH ad E|none=>z.get t)| .const v=>rf v| .global g=>some (.ptr g 0)| .func f=>some (.func (.func f) [] [])
def d2(d:Nat)(v:y):Option y:=match v with| .ptr b J=>some (.ptr b (J+d))|_=>none
def xO(c:y)(a b:gc)(ad:List (Nat×y))(z:B y):Option y:=match c with
 | .bool c=>a8 c (gD a ad z) (gD b ad z)|_=>none
def vh(n aO:Nat)(x:y)(i:Nat):Option y:=match x with| .ptr b J=>a8 (Nat.blt i n) (some (.ptr b (J+i*aO))) none|_=>none
def pM(aO:Nat)(x:y)(i:Nat):Option y:=match x with
 | .slice b J len _=>a8 (Nat.blt i len) (some (.ptr b (J+i*aO))) none| .cy b J len _=>a8 (Nat.blt i len) (some (.ptr b (J+i*aO))) none|_=>none
def hm(v:y):Option y:=match v with
 | .ptr b J=>some (.ptr b J)| .func fn a b=>(match fn with| .func f=>some (.func (.func f) a b)| .yield f=>some (.func (.yield f) a b)|_=>none)| .iface t v=>some (.iface t v)|_=>none
def hH(i:Nat)(v:y):Option y:=match v with| .tuple aF=>kE aF i|_=>none
def eb(J:fM):ai->B R->List (Nat×y)->B y->Option y:=
 match J with
 | .q5 x=>λ_ _=>gD x| .pick c a b=>λ_ _ ad z=>(match gD c ad z with|some c=>xO c a b ad z|none=>none)| .df a=>λC j ad z=>(match gD a ad z with|some a=>ay C j a|none=>none)| .pk n a=>λC j ad z=>(match gD a ad z with|some a=>b4 C j n a|none=>none)| .off d x=>λ_ _ ad z=>(match gD x ad z with|some a=>d2 d a|none=>none)| .pf n aO x i=>λ_ _ ad z=>(match gD x ad z with|some a=>(match gD i ad z with|some i=>(match hg i with|some i=>vh n aO a i|none=>none)|none=>none)|none=>none)| .pg aO x i=>λ_ _ ad z=>(match gD x ad z with|some a=>(match gD i ad z with|some i=>(match hg i with|some i=>pM aO a i|none=>none)|none=>none)|none=>none)| .q8 x=>λ_ _ ad z=>(match gD x ad z with|some a=>hm a|none=>none)| .uv op x h=>λ_ _ ad z=>(match gD x ad z with|some a=>(match gD h ad z with|some b=>aH op a b|none=>none)|none=>none)| .ext i x=>λ_ _ ad z=>(match gD x ad z with|some a=>hH i a|none=>none)| .eP bi J=>λC j ad z=>ix J C j (fw bi ad z)|_=>λ_ _ _ _=>none
def iD(J:fM):ai->Nat->List (Nat×y)->B y->Option (y×R):=
 match J with
 | .make bi J=>λC b ad z=>jN J C (fw bi ad z) b|_=>λ_ _ _ _=>none
def eB(J:fM):ai->B R->Nat->List (Nat×y)->B y->Option cj:=
 match J with
 | .st n a v=>λC j k ad z=>(match gD a ad z with|some a=>(match gD v ad z with|some v=>xA C j k n a v|none=>none)|none=>none)| .call f args=>λC j _ ad z=>(match o1 ad z args with|some b=>a8 (sJ C f) (match p7 C j b with|some S'=>some (.wrote f b S')|none=>none) (g9 C f b)|none=>none)| .dc bi J=>λC j k ad z=>h1 J C j k (fw bi ad z)|_=>λ_ _ _ _ _=>none
inductive Jf where|eP|make|dc
def hz(J:fM):Jf:=match J with
 | .st .. => .dc| .call .. => .dc| .dc .. => .dc
 | .make .. => .make|_=> .eP
def wO(J:fM)(C:ai)(j:B R)(k:Nat)(ad:List (Nat×y))(z:B y):Option cj:=
 kv k λk=>(match iD J C k ad z with|some (v,bQ)=>fx (aI C j k (some bQ)) λj=>some (.cJ v j (k+1))|none=>none)
def dj(m i:Nat):Bool:=Nat.beq (Nat.mod (Nat.div m (Nat.pow 2 i)) 2) 1
def hF(bi:List (Nat×Nat))(J:Operand):Option gc:=match J with
 | .tmp t=>(match cH bi t with|some E=>some (.v E)|none=>some (.t t))| .const v=>(match rf v with|some a=>some (.c a)|none=>none)| .global g=>some (.c (.ptr g 0))| .func f=>some (.c (.func (.func f) [] []))
def to(bi:List (Nat×Nat)):List Operand->Option (List gc)
 |[]=>some []|x::l=>match hF bi x,to bi l with|some v,some r=>some (v::r)|_,_=>none
def RD(C:ai)(s d:Nat):Bool:=match C.P.underlying s,C.P.underlying d with
 |some .string,some (.slice _)=>true|some (.slice _),some (.slice _)=>true|_,_=>false
def Ry(C:ai)(t:Nat):Bool:=match C.P.underlying t with|some (.int _)=>true|_=>false
def gY(C:ai)(bi:List (Nat×Nat))(J:Op):Option fM:=
 match J with
 | .move x| .assign x=>(match hF bi x with|some x=>some (.q5 x)|none=>none)| .pick c a b=>(match hF bi c,hF bi a,hF bi b with|some c,some a,some b=>some (.pick c a b)|_,_,_=>none)| .load t a=>(match hF bi a,qO C t,fd C t with
   |some a,some true,some s=>some (.pk s a)|some a,some false,_=>some (.df a)|_,_,_=>none)
 | .fieldAddr s x f=>(match C.P.underlying s,hF bi x with
   |some (.struct w),some x=>(match kE w.toList f with
    |some g=>(match fd C g.type with|some aw=>a8 (Nat.beq aw 0) (none)<|some (.off g.offset x)|none=>none)|none=>none)
   |_,_=>none)
 | .indexAddr t x i=>(match C.P.underlying t,hF bi x,hF bi i with
   |some (.array n cp),some x,some i=>(match fd C cp with|some aO=>some (.pf n aO x i)|none=>none)|some (.slice cp),some x,some i=>(match fd C cp with|some aO=>some (.pg aO x i)|none=>none)|_,_,_=>none)
 | .nilCheck x=>(match hF bi x with|some x=>some (.q8 x)|none=>none)| .binOp op t x h A=>a8 (Ry C t) ((match hF bi x,hF bi h with|some x,some h=>some (.uv op x h)|_,_=>none))<|some (.eP bi (.binOp op t x h A))
 | .extract x i=>(match hF bi x with|some x=>some (.ext i x)|none=>none)| .store t a x=>(match hF bi a,hF bi x,fd C t with|some a,some x,some s=>some (.st s a x)|_,_,_=>none)| .call ⟨.value (.func f),args,bN⟩=>(match to bi args.toList with|some v=>some (.call f v)|none=>none)| .call ⟨.builtin b,args,bN⟩=>(match b with
   | .len| .cap| .max| .min=>some (.eP bi (.call ⟨.builtin b,args,bN⟩))|_=>some (.dc bi (.call ⟨.builtin b,args,bN⟩)))
 | .call c=>some (.dc bi (.call c))| .convert s d x=>a8 (RD C s d) (some (.dc bi (.convert s d x)))<|some (.eP bi (.convert s d x))
 | .alloc t=>some (.make bi (.alloc t))| .box t x=>some (.make bi (.box t x))| .buildSlice t l p=>some (.make bi (.buildSlice t l p))| .makeMap t none=>some (.make bi (.makeMap t none))| .makeMap t (some r)=>some (.dc bi (.makeMap t (some r)))| .mapUpdate t m q x=>some (.dc bi (.mapUpdate t m q x))| .insert t m q x=>some (.dc bi (.insert t m q x))| .mapEntry t m q=>some (.dc bi (.mapEntry t m q))| .entryStore t m s x=>some (.dc bi (.entryStore t m s x))| .makeSlice t l c=>some (.dc bi (.makeSlice t l c))| .range t x=>some (.dc bi (.range t x))| .next i s=>some (.dc bi (.next i s))| .panic x=>some (.dc bi (.panic x))| .defer c=>some (.dc bi (.defer c))|J=>some (.eP bi J)
def mY(E:Nat):List (Nat×Nat)->Option Nat
 |[]=>none|(t,i)::l=>a8 (Nat.beq i E) (some t)<|mY E l
def tV(wr:List (Nat×Nat))(g:Option (Nat×Bool)):Option (Option (Nat×Bool)):=match g with
 |none=>some none|some (E,want)=>(match mY E wr with
  |some t=>(match cH wr t with
   |some a=>a8 (Nat.beq E a) (some (some (E,want)))<|none
   |none=>none)
  |none=>none)
def nH(J:Oper)(i:Nat)(wr:List (Nat×Nat)):List (Nat×Nat):=match J.dst with|some d=>(d,i)::wr|none=>wr
def v6(n:Nat)(J:Oper):Bool:=match J.dst with|some d=>Nat.blt d n|none=>true
def s6(C:ai)(ac:Nat)(bi:List (Nat×Nat))(J:Operand):Bool:=match J with
 | .tmp t=>(match cH bi t with|some _=>true|none=>dj ac t)| .global g=>Nat.blt g C.i6|_=>true
def ri(C:ai)(ac:Nat)(bi:List (Nat×Nat)):List Operand->Bool
 |[]=>true|x::l=>s6 C ac bi x&&ri C ac bi l
def k1(C:ai)(n ac:Nat):List Oper->Nat->List (Nat×Nat)->Option (List de)
 |[],_,_=>some []|J::l,i,wr=>kv i λi=>match tV wr J.guard,gY C wr J.op with
  |some g,some op=>a8 (v6 n J&&ri C ac wr J.op.operands.toList) (match k1 C n ac l (i+1) (nH J i wr)with|some r=>some (⟨i,g,op⟩::r)|none=>none) none|_,_=>none
def gE(ac:Nat):List Oper->Nat->List (Nat×Nat)
 |[],_=>[]|J::l,i=>match J.dst with
  |some d=>a8 (dj ac d) ((i,d)::gE ac l (i+1))<|gE ac l (i+1)
  |none=>gE ac l (i+1)
def dstsOf:List Oper->List Nat
 |[]=>[]|J::l=>match J.dst with|some d=>d::dstsOf l|none=>dstsOf l
structure x4 where
 rest:List de
 fin:List (Nat×Nat)
def uP(C:ai)(n:Nat)(ae:Array Oper)(ac:Nat):Option x4:=
 match k1 C n ac ae.toList 0 []with
 |some cs=>some ⟨cs,gE ac ae.toList 0⟩|none=>none
def s8(J:Operand)(m:Nat):Nat:=match J with| .tmp t=>Nat.lor m (Nat.pow 2 t)|_=>m
def s9(l:List Operand):Nat:=l.foldr s8 0
def ua(J:Oper):Nat:=match J.dst with|some d=>Nat.pow 2 d|none=>0
def wy(wr:List (Nat×Nat))(g:Option (Nat×Bool)):Nat:=match g with
 |none=>0|some (E,_)=>(match mY E wr with|some t=>Nat.pow 2 t|none=>0)
def qq(a:List (Nat×Nat))(u:Edge)(m:Nat):Nat:=
 a8 (dj m u.on) (m)<|a8 (Region.binds .any u) ((match cH a u.on with|some q=>Nat.lor (Nat.lor m q) (Nat.pow 2 u.on)|none=>m))<|m
structure dN where
 i:Nat
 m:Nat
 r:Nat
 w:Nat
def pu:List Oper->Nat->List (Nat×Nat)->List (Nat×Nat)->List dN
 |[],_,_,_=>[]|J::l,i,wr,a=>kv i λi=>kv (J.after.toList.foldr (qq a) 0) λm=>
  ⟨i,m,Nat.lor (s9 J.op.operands.toList) (wy wr J.guard),ua J⟩::pu l (i+1) (nH J i wr) ((i,m)::a)
def w3(a b:dN):Bool:=
 dj b.m a.i||(Nat.beq (Nat.land a.w (Nat.lor b.r b.w)) 0&&Nat.beq (Nat.land b.w a.r) 0)
def w4(a:dN):List dN->Bool
 |[]=>true|b::l=>w3 a b&&w4 a l
def uX:List dN->Bool
 |[]=>true|a::l=>w4 a l&&uX l
def uu:List dN->Bool
 |[]=>true|a::l=>(match l with|[]=>true|b::_=>dj b.m a.i)&&uu l
def rh:List Oper->Nat->Bool
 |[],_=>true|J::l,i=>J.after.toList.all (λu=> !Region.binds .any u||Nat.blt u.on i)&&rh l (i+1)
def l5(m:Nat):List dN->Nat
 |[]=>0|e::l=>a8 (dj m e.i) (Nat.succ (l5 m l))<|l5 m l
def pe(i:Nat):List dN->Nat
 |[]=>0|e::l=>a8 (dj e.m i) (0)<|Nat.succ (pe i l)
structure jk where
 x:de
 aW:Nat
 af:Nat
def h6(J:fM):Bool:=match hz J with| .dc=>true|_=>false
def sH:List dN->List de->List (dN×de)
 |p::b2,c::cs=>a8 (h6 c.op) ((p,c)::sH b2 cs)<|sH b2 cs
 |_,_=>[]
def sS(a:List dN):List dN->List de->List jk
 |p::b2,c::cs=>a8 (h6 c.op) (sS a b2 cs)<|⟨c,l5 p.m a,pe p.i a⟩::sS a b2 cs
 |_,_=>[]
def lz(q:Nat):List jk->List de
 |[]=>[]|l::a=>a8 (Nat.beq l.aW q) (l.x::lz q a)<|lz q a
def rv(q:Nat):List jk->List de
 |[]=>[]|l::a=>a8 (Nat.blt l.aW q&&Nat.ble q l.af&&pG l.x.op) (l.x::rv q a)<|rv q a
def n9(a:List jk):Nat->List (dN×de)->List mN
 |q,[]=>[⟨lz q a,rv q a,none⟩]|q,(_,b)::l=>⟨lz q a,rv q a,some b⟩::n9 a (q+1) l
def jU:List (dN×de)->List dN
 |[]=>[]|(p,_)::l=>p::jU l
structure x3 where
 gT:List mN
 fin:List (Nat×Nat)
def uO(C:ai)(n:Nat)(ae:Array Oper)(ac:Nat):Option x3:=
 match k1 C n ac ae.toList 0 []with
 |none=>none|some cs=>(λall=>(λa=>a8 (rh ae.toList 0&&uX all&&uu (jU a)) (some ⟨n9 (sS (jU a) all cs) 0 a,gE ac ae.toList 0⟩)<|none) (sH all cs)) (pu ae.toList 0 [] [])
def FC:List Oper->Nat->Nat->Nat
 |[],_,r=>r|J::l,a,r=>FC l (Nat.lor a (ua J)) ((λrd=>Nat.lor r (Nat.xor rd (Nat.land rd a))) (s9 J.op.operands.toList))
def gR:Code->Nat
 | .region _ ae _=>FC ae.toList 0 0| .seq a b=>Nat.lor (gR a) (gR b)| .cond c a b=>s8 c (Nat.lor (gR a) (gR b))| .block _ b=>gR b| .loop b=>gR b| .scope b=>gR b| .rangeFunc f _ a b=>s8 f (Nat.lor (gR a) (gR b))|_=>0
def j7(l:List ResultVar):Nat:=l.foldr (λx r=>match x with| .tmp t=>Nat.lor r (Nat.pow 2 t)| .cell a _=>Nat.lor r (Nat.pow 2 a)) 0
def gZ(C:ai)(ac:Nat):Code->Bool
 | .seq a b=>gZ C ac a&&gZ C ac b| .cond c a b=>s6 C ac [] c&&(gZ C ac a&&gZ C ac b)| .block _ b=>gZ C ac b| .loop b=>gZ C ac b| .scope b=>gZ C ac b| .rangeFunc f _ a b=>s6 C ac [] f&&(gZ C ac a&&gZ C ac b)|_=>true
def oh(ac:Nat):List ResultVar->Bool
 |[]=>true| .tmp t::l=>dj ac t&&oh ac l| .cell a _::l=>dj ac a&&oh ac l
end
end Go.aC
@[match_pattern]abbrev Go.aC.y.Z(x:Int):Go.aC.y:=.int .i64 x
@[match_pattern]abbrev Go.aC.y.zT:Go.aC.y:=.bool false
@[match_pattern]abbrev Go.aC.y.zV:Go.aC.y:=.bool true
namespace Go.aC
@[simp] def cE{α:Type _}(a b:α):a8 true a b=a:=rfl
@[simp] def ge{α:Type _}(a b:α):a8 false a b=b:=rfl
def c3{α:Type _}(c:Bool)(a b:α):a8 c a b=if c=true then a else b:=by cases c<;>rfl
def er{α:Type _}(x h:Nat)(a b:α):a8 (Nat.beq x h) a b=if x=h then a else b:=by
 rw[c3];by_cases e:x=h
 ·simp_all
 ·simp_all
@[simp] def cL{α:Type _}(c:Bool)(a:Option α)(v:α):a8 c a none=some v↔c=true/\a=some v:=by cases c<;>simp
@[simp] def gQ{cz:Type}(n:Nat)(q:Nat->cz):kv n q=q n:=by cases n<;>rfl
@[simp] def sA{cz:Type}(n:Int)(q:Int->cz):Ab n q=q n:=by cases n with|ofNat m=>exact gQ m λm=>q (.ofNat m)|negSucc m=>exact gQ m λm=>q (.negSucc m)
@[simp] def dD{α cz:Type}(t:B α)(q:B α->cz):fx t q=q t:=by cases t<;>rfl
@[simp] def adf{α:Type}(E:Nat):cH ([]:List (Nat×α)) E=none:=rfl
def kq{α:Type}(a:Nat)(b:α)(l:List (Nat×α))(E:Nat):cH ((a,b)::l) E=if a=E then some b else cH l E:=by show a8 (Nat.beq a E) (some b) (cH l E)=_;rw[er]
@[simp] def jB{α:Type}(l:List α):∀i,kE l i=l[i]? :=by induction l with|nil=>intro i;rfl|cons a l U=>intro i;cases i with|zero=>rfl|succ E=>exact U E
namespace B
variable{α:Type}
@[simp] def adl(i:Nat):(B.nil:B α).get i=none:=rfl
@[simp] def adm(v:Option α)(l r:B α):(B.node v l r).get 0=v:=rfl
def pa(v:Option α)(l r:B α)(E:Nat):(B.node v l r).get (E+1)=if E%2=0 then l.get (E/2)else r.get (E/2):=by show a8 (Nat.beq (E%2) 0) (l.get (E/2)) (r.get (E/2))=_;rw[er]
def abq(f:Nat)(a:Option α):kI (f+1) B.nil 0 a=.node a .nil .nil:=rfl
def abp(f E:Nat)(a:Option α):kI (f+1) B.nil (E+1) a=
 if E%2=0 then .node none (kI f .nil (E/2) a) .nil else .node none .nil (kI f .nil (E/2) a):=by
 show a8 (Nat.beq (E%2) 0) (fx (kI f .nil (E/2) a) λb=>B.node none b B.nil) (fx (kI f .nil (E/2) a) λc=>B.node none B.nil c)=_;rw[er,dD,dD]
def abs(f:Nat)(v:Option α)(l r:B α)(a:Option α):kI (f+1) (.node v l r) 0 a=.node a l r:=rfl
def abr(f E:Nat)(v:Option α)(l r:B α)(a:Option α):kI (f+1) (.node v l r) (E+1) a=
 if E%2=0 then .node v (kI f l (E/2) a) r else .node v l (kI f r (E/2) a):=by
 show a8 (Nat.beq (E%2) 0) (fx (kI f l (E/2) a) λb=>B.node v b r) (fx (kI f r (E/2) a) λc=>B.node v l c)=_;rw[er,dD,dD]
def QJ:∀(f:Nat) (t:B α) (i E:Nat) (a:Option α),i<f->(kI f t i a).get E=if i=E then a else t.get E:=by
 intro f;induction f with
 |zero=>grind|succ f U=>
  intro t i E a e;cases i with
  |zero=>
   cases t with
   |nil=>rw[abq];cases E with
    |zero=>simp|succ E=>rw[pa];simp
   |node v l r=>rw[abs];cases E with
    |zero=>simp|succ E=>rw[pa,pa];simp
  |succ i=>
   have af:i/2<f:=Zo;cases t with
   |nil=>
    rw[abp];cases E with
    |zero=>split<;>simp|succ E=>
     by_cases u:i%2=0
     ·rw[Zu u,pa];by_cases b:E%2=0
      ·rw[Zu b,U _ _ _ _ af];by_cases V:i/2=E/2
       ·rw[Zu V,Zu Zo]
       ·rw[Zi V,Zi Zo];rfl
      ·rw[Zi b,Zi Zo];rfl
     ·rw[Zi u,pa];by_cases b:E%2=0
      ·rw[Zu b,Zi Zo];rfl
      ·rw[Zi b,U _ _ _ _ af];by_cases V:i/2=E/2
       ·rw[Zu V,Zu Zo]
       ·rw[Zi V,Zi Zo];rfl
   |node v l r=>
    rw[abr];cases E with
    |zero=>split<;>simp|succ E=>
     rw[pa v l r];by_cases u:i%2=0
     ·rw[Zu u,pa];by_cases b:E%2=0
      ·rw[Zu b,Zu b,U _ _ _ _ af];by_cases V:i/2=E/2
       ·rw[Zu V,Zu Zo]
       ·rw[Zi V,Zi Zo]
      ·rw[Zi b,Zi b,Zi Zo]
     ·rw[Zi u,pa];by_cases b:E%2=0
      ·rw[Zu b,Zu b,Zi Zo]
      ·rw[Zi b,Zi b,U _ _ _ _ af];by_cases V:i/2=E/2
       ·rw[Zu V,Zu Zo]
       ·rw[Zi V,Zi Zo]
def eX(t:B α)(i E:Nat)(a:Option α):(t.set i a).get E=if i=E then a else t.get E:=QJ _ _ _ _ _ Zo
def wu(l:List α):∀(i:Nat) (t:B α) (E:Nat),(ofList l i t).get E=if i<=E/\E<i+l.length then l[E-i]? else t.get E:=by induction l with|nil=>intro i t E;simp only[ofList,ZU];rw[Zi Zo]|cons a l U=>intro i t E;simp only[ofList,dD];rw[U,eX];grind
def wt(t:B α):∀(n J:Nat) (l:List α),t.g1 J n=some l->l.length=n/\∀i,i<n->t.get (J+i)=l[i]? :=by intro n;induction n with|zero=>intro J l e;simp[g1]at e;subst e;simp|succ n U=>intro J l e;simp only[g1]at e;grind
end B
def BR(l:List y):∀(c:B y) (J:Nat),ch c J l=B.ofList l J c:=by induction l with|nil=>intro c J;rfl|cons v l U=>intro c J;simp only[ch,B.ofList,dD];exact U _ _
structure hq where
 bx:Nat
 cm:Nat
 room:Nat
 deriving Inhabited
abbrev bT:=Nat->hq
def hN(D:bT):Fn->Fn
 | .yield l=> .yield (D l).bx|f=>f
def dz(s:List Nat):ByteArray:=⟨(s.map UInt8.ofNat).toArray⟩
mutual
def aq(D:bT):y->Value
 | .bool b=> .bool b| .int q n=> .int q n| .str s=> .string (dz s)| .ptr b J=> .pointer (some ⟨(D b).bx,(D b).cm+J,none⟩)| .bE=> .pointer none| .slice b J len cap=> .slice (some ⟨(D b).bx,(D b).cm+J,none⟩) len cap| .cy b J len aO=> .slice (some ⟨(D b).bx,(D b).cm+J,none⟩) len (((D b).room-J)/aO)| .au=> .slice none 0 0| .map m=> .map (some (D m).bx)| .gs=> .map none| .func fn a b=> .func (hN D fn) (bd D a).toArray (bd D b).toArray| .nilFunc=> .nilFunc| .iface t v=> .iface t (aq D v)| .nilIface=> .nilIface| .agg cs=> .agg (bd D cs).toArray| .tuple aF=> .tuple (bd D aF).toArray
def bd(D:bT):List y->List Value
 |[]=>[]|v::l=>aq D v::bd D l
end
def jp(D:bT)(l:List y):bd D l=l.map (aq D):=by induction l with|nil=>rfl|cons v l U=>simp[bd,U]
def ww(Q:Nat->Prop):Fn->Prop
 | .yield l=>Q l| .func _=>True|_=>False
mutual
def bp(Q:Nat->Prop):y->Prop
 | .bool _=>True| .int _ _=>True| .str s=>∀x∈s,x<256| .ptr b _=>Q b| .bE=>True| .slice b _ _ _=>Q b| .cy b _ _ _=>Q b| .au=>True| .map m=>Q m| .gs=>True| .func fn a b=>ww Q fn/\cu Q a/\cu Q b| .nilFunc=>True| .iface _ v=>bp Q v| .nilIface=>True| .agg cs=>cu Q cs| .tuple aF=>cu Q aF
def cu(Q:Nat->Prop):List y->Prop
 |[]=>True|v::l=>bp Q v/\cu Q l
end
def md(Q:Nat->Prop)(l:List y):cu Q l↔∀v∈l,bp Q v:=by induction l with|nil=>simp[cu]|cons v l U=>simp[cu,U]
mutual
def yL{D d:bT}{Q:Nat->Prop}(e:∀b,Q b->D b=d b):∀v,bp Q v->aq D v=aq d v
 | .bool _,_=>rfl| .int _ _,_=>rfl| .str _,_=>rfl| .ptr b J,g=>by simp only[aq,e b g]| .bE,_=>rfl| .slice b J l c,g=>by simp only[aq,e b g]| .cy b J l c,g=>by simp only[aq,e b g]| .au,_=>rfl| .map m,g=>by simp only[aq,e m g]| .gs,_=>rfl| .func fn a b,g=>by obtain⟨f,i,n⟩:=g;have u:hN D fn=hN d fn:=(by cases fn<;>simp only[hN];rw[e _ f]);simp only[aq,u,sq e a i,sq e b n]
 | .nilFunc,_=>rfl| .iface t v,g=>by simp only[aq,yL e v g]| .nilIface,_=>rfl| .agg cs,g=>by simp only[aq,sq e cs g]| .tuple aF,g=>by simp only[aq,sq e aF g]
def sq{D d:bT}{Q:Nat->Prop}(e:∀b,Q b->D b=d b):∀l,cu Q l->bd D l=bd d l
 |[],_=>rfl|v::l,g=>by simp only[bd,yL e v g.1,sq e l g.2]
end
mutual
def iV{Q c:Nat->Prop}(e:∀b,Q b->c b):∀v,bp Q v->bp c v
 | .bool _,_=>trivial| .int _ _,_=>trivial| .str _,g=>g| .ptr b _,g=>e b g| .bE,_=>trivial| .slice b _ _ _,g=>e b g| .cy b _ _ _,g=>e b g| .au,_=>trivial| .map m,g=>e m g| .gs,_=>trivial| .func fn a b,g=>⟨by cases fn<;>first|exact e _ g.1|exact g.1,kw e a g.2.1,kw e b g.2.2⟩| .nilFunc,_=>trivial| .iface _ v,g=>iV e v g| .nilIface,_=>trivial| .agg cs,g=>kw e cs g| .tuple aF,g=>kw e aF g
def kw{Q c:Nat->Prop}(e:∀b,Q b->c b):∀l,cu Q l->cu c l
 |[],_=>trivial|v::l,g=>⟨iV e v g.1,kw e l g.2⟩
end
open Go.RowKit (Below)
structure fs(D:bT)(Q:Nat->Prop)(n ac:Nat)(z:B y)(tmps:Array Value):Prop where
 size:tmps.size=n
 val:∀t v,dj ac t=true->z.get t=some v->tmps[t]? =some (aq D v)/\bp Q v
def x6(C:ai)(fn ac:Nat):Prop:=∃f,C.P.funcs[fn]? =some f/\oh ac f.results.toList=true
def sN(c:Code):Prop:=c=.ret\/∃id,c=.exit id
def qe(D:bT):xQ->Target
 | .fn fn a=> .fn (hN D fn) (bd D a).toArray| .collected r=> .collected (D r).bx
def hc(D:bT)(d:eA):Deferred:=⟨qe D d.target,(bd D d.args).toArray⟩
def QL(Q:Nat->Prop):xQ->Prop
 | .fn fn a=>ww Q fn/\cu Q a| .collected r=>Q r
def pb(Q:Nat->Prop)(d:eA):Prop:=QL Q d.target/\cu Q d.args
def se(st:it)(n:Nat)(pl:hq)(aO aW af:Nat):Prop:=match st with
 | .own=>aW=af| .marked=>aW=af\/aO<=aW| .grow _=>(aW=af\/aO<=aW)/\n<=pl.room/\pl.cm+pl.room<=aO| .fD=>True/\n<=pl.room/\pl.cm+pl.room<=aO
def se.free{st:it}{n:Nat}{pl:hq}{aO aW af:Nat}(e:se st n pl aO aW af)(a:st≠ .fD):af<=aW\/aO<=aW:=by cases st with|own=>exact .inl (zr e.symm)|marked=>exact e.imp (λu=>zr u.symm) id|grow _=>exact e.1.imp (λu=>zr u.symm) id|fD=>grind
def dR(D:bT)(u:y×y×Nat):MapEntry:=⟨aq D u.1,aq D u.2.1,u.2.2⟩
def f1(C:ai)(D:bT)(Q:Nat->Prop)(J:R)(pl:hq)(w:World):Prop:=match J with
 | .cells c n st=>∃bg ty aW af,w.heap[pl.bx]? =some (.cells bg ty (aW,af))/\se st n pl bg.size aW af/\pl.cm+n<=bg.size/\
    ∀i v,c.get i=some v->bg[pl.cm+i]? =some (aq D v)/\bp Q v
 | .map a bq=>∃bg,w.heap[pl.bx]? =some (.map bg bq)/\bg.toList=a.map (dR D)/\∀u∈a,bp Q u.1/\bp Q u.2.1| .look a=>∃(bg:Array MapEntry) (bq:Nat) (gO:List (y×y×Nat)),w.heap[pl.bx]? =some (.map bg bq)/\bg.toList=gO.map (dR D)/\(gO.map λu=>(u.1,u.2.1)).Perm a/\∀u∈gO,bp Q u.1/\bp Q u.2.1| .iI s pos=>pl.cm=0/\w.heap[pl.bx]? =some (.stringIter (dz s) pos)/\∀x∈s,x<256| .e7 m f seen st=>pl.cm=0/\w.heap[pl.bx]? =some (.mapIter (m.map λb=>(D b).bx) f seen.toArray st)/\∀b,m=some b->Q b| .q4 m f n bz st p=>pl.cm=0/\Q m/\∃seen:List Nat,w.heap[pl.bx]? =some (.mapIter (some (D m).bx) f seen.toArray st)/\(bz.filter λb=> !seen.contains b).length<=n/\∀b,p=some b->uF seen=some b| .loop state pending fn n ac z params assign body aP=>∃tmps,w.heap[pl.bx]? =some (.loop ⟨state,pending,fn,tmps,params.toArray,assign,body,(D aP).bx⟩)/\fs D Q n ac z tmps/\Q aP/\
    gZ C ac assign=true/\gZ C ac body=true/\(∀c,pending=some c->sN c)/\x6 C fn ac
 | .deferred g=>w.heap[pl.bx]? =some (.deferred (g.map λl=>l.map (hc D)))/\∀l,g=some l->∀d∈l,pb Q d
def yl(J dH:R)(b f:Nat):Prop:=
 (∃c n d a,J=.cells c n .fD/\dH=.cells d a .fD)\/
 (∃c n l d a,J=.cells c n (.grow l)/\dH=.cells d a .fD/\f∈l/\a<=n)\/
 (∃c n l d a,dH=.cells d a (.grow l)/\J=.cells c n .fD/\b∈l/\n<=a)
def mJ(C:ai)(Q:Nat->Prop)(J:R):Prop:=(∀c n l,J=.cells c n (.grow l)->∀x∈l,Q x/\C.aD<=x)/\∀c n st,J=.cells c n st->∀i v,c.get i=some v->i<n
structure bV(C:ai)(D:bT)(Q:Nat->Prop)(j:B R)(k aN:Nat)(w:World):Prop where
 aD:C.aD<=k
 lt:∀b,Q b->b<k
 mq:∀b J,F C j b=some J->b<k
 obj:∀b J,F C j b=some J->Q b->f1 C D Q J (D b) w
 sep:∀b a J dH,F C j b=some J->F C j a=some dH->Q b->Q a->b≠a->C.aD<=b->(D b).bx=(D a).bx->yl J dH b a/\(D b).cm=(D a).cm
 base:∀b J,C.aD<=b->F C j b=some J->Q b->aN<=(D b).bx
 cl:∀b J,F C j b=some J->Q b->mJ C Q J
def fq(D:bT)(Q:Nat->Prop)(ab:Operand->Value)(a:Operand->Option y)(l:List Operand):Prop:=
 ∀x∈l,∀v,a x=some v->ab x=aq D v/\bp Q v
section
variable{C:ai}{D:bT}{Q:Nat->Prop}{j:B R}{k aN:Nat}{w:World}
def yz(s:ByteArray):dz (s.data.toList.map (·.toNat))=s:=by
 unfold dz;rw[Z2];have:(UInt8.ofNat∘λx:UInt8=>x.toNat)=id:=by funext x;simp
 simp_all
def SX{α cz:Type}(f:α->Option cz):∀(l:List α) (r:List cz),q2 f l=some r->r.length=l.length/\∀(i:Nat) (a:α),l[i]? =some a->∃b,r[i]? =some b/\f a=some b:=by intro l;induction l with|nil=>intro r e;simp[q2]at e;subst e;simp|cons a l U=>intro r e;simp only[q2]at e;grind
def TG(D:bT)(Q:Nat->Prop):∀(n:Nat) (v:Value) (a:y),px n v=some a->v=aq D a/\bp Q a:=by
 intro n;induction n with
 |zero=>intro v a e;simp[px]at e|succ n U=>
  have list:∀(l:List Value) (r:List y),q2 (px n) l=some r->l=bd D r/\cu Q r:=by
   intro l r e;obtain⟨C,d⟩:=SX _ l r e;constructor
   ·rw[jp];apply Y5;grind
   ·rw[md];intro v s;obtain⟨i,af⟩:=Z4.1 s;have p:i<l.length:=(by have:=(Ze.1 af).1;omega);obtain⟨b,T,m⟩:=d i l[i] (Zb p);rw[af]at T;simp at T;subst T;exact(U _ _ m).2
  intro v a e;unfold px at e;split at e<;>(try(simp at e;subst e;simp[aq,bp,hN,bd,ww,cu];done))
  ·simp at e;subst e;refine⟨by simp only[aq];rw[yz], ?_⟩;intro x w;obtain⟨h,_,rfl⟩:=ZB.1 w;exact h.toNat_lt
  ·rename_i t v;split at e
   ·rename_i A f;simp at e;subst e;obtain⟨u,g⟩:=U _ _ f;exact⟨by simp only[aq,u],g⟩
   ·simp at e
  ·rename_i cs;split at e
   ·rename_i l c;simp at e;subst e;obtain⟨u,g⟩:=list _ _ c;exact⟨by simp only[aq];rw[<-u],g⟩
   ·simp at e
  ·rename_i cs;split at e
   ·rename_i l c;simp at e;subst e;obtain⟨u,g⟩:=list _ _ c;exact⟨by simp only[aq];rw[<-u],g⟩
   ·simp at e
  ·simp at e
def w1{v:Value}{a:y}(e:rf v=some a):v=aq D a/\bp Q a:=TG D Q _ _ _ e
def ko(b J i:Nat):(⟨b,J,none⟩:Addr).add i=⟨b,J+i,none⟩:=by unfold Addr.add;split<;>simp_all
def OC(I:bV C D Q j k aN w){b:Nat}(T:Q b){c:B y}(e:cellsOf C j b=some c):
 ∃bg ty aW af,w.heap[(D b).bx]? =some (.cells bg ty (aW,af))/\∀i v,c.get i=some v->bg[(D b).cm+i]? =some (aq D v)/\bp Q v:=by
 unfold cellsOf at e;split at e
 ·rename_i d n st a;simp at e;subst e;obtain⟨bg,ty,aW,af,f,_,_,g⟩:=I.obj b _ a T;grind
 ·grind
def EV(I:bV C D Q j k aN w){b:Nat}(T:Q b){c:B y}(e:cellsOf C j b=some c){J:Nat}{v:y}(i:c.get J=some v):
 w.cell? ⟨(D b).bx,(D b).cm+J,none⟩=some (aq D v)/\bp Q v:=by
 obtain⟨bg,ty,aW,af,a,d⟩:=OC I T e;obtain⟨f,g⟩:=d J v i;exact⟨by simp[World.cell?,a,f],g⟩
def vT(I:bV C D Q j k aN w){b:Nat}(T:Q b){c:B y}(e:cellsOf C j b=some c){J n:Nat}{l:List y}(p:c.g1 J n=some l):
 (loadCells ⟨(D b).bx,(D b).cm+J,none⟩ n).run C.P w=.ok (bd D l).toArray w/\cu Q l:=by
 obtain⟨g,m⟩:=B.wt _ _ _ _ p;have key:∀i v,l[i]? =some v->w.cell? ⟨(D b).bx,(D b).cm+J+i,none⟩=some (aq D v)/\bp Q v:=by
  intro i v af;have r:i<n:=by grind
  have:=EV I T e (v:=v) (by rw[m i r,af]);grind
 constructor
 ·have s:=run_loadCells_list (P:=C.P) w ⟨(D b).bx,(D b).cm+J,none⟩ (bd D l) (λE v d=>by
   rw[ko];rw[jp]at d;cases f:l[E]? with
   |none=>grind|some a=>simp[f]at d;subst d;exact(key E a f).1)
  have t:(bd D l).length=n:=by rw[jp,Zj,g]
  grind
 ·rw[md];intro v d;obtain⟨i,af⟩:=Z4.1 d;exact(key i v af).2
def aco{t n:Nat}(e:fd C t=some n):∃i,C.P.info? t=some i/\i.size=n:=by unfold fd at e;grind
def ja{t n:Nat}(e:fd C t=some n)(w:World):(sizeOf t).run C.P w=.ok n w:=by obtain⟨i,af,rfl⟩:=aco e;simp[sizeOf,typeInfo,af]
def pF{t:Nat}{aw:y}(e:kf C t=some aw)(D:bT)(Q:Nat->Prop)(w:World):(zeroValue t).run C.P w=.ok (aq D aw) w/\bp Q aw:=by unfold kf at e;cases af:C.P.info? t with|none=>grind|some i=>simp only[af]at e;cases a:i.zero with|none=>grind|some v=>simp only[a]at e;obtain⟨u,g⟩:=w1 (D:=D) e;exact⟨by simp[zeroValue,typeInfo,af,a,u],g⟩
def xr{t:Nat}{b:Bool}(e:qO C t=some b)(w:World):(isAgg t).run C.P w=.ok b w:=by unfold qO at e;cases a:C.P.underlying t with|none=>grind|some d=>simp only[a]at e;cases d<;>simp at e<;>subst e<;>simp[isAgg,run_underlying a]
def h4{wr:List (Nat×Nat)}{x:Operand}{c:gc}(e:hF wr x=some c)(ad:List (Nat×y))(z:B y):gD c ad z=fw wr ad z x:=by
 cases x with
 |tmp t=>
  simp only[hF]at e;cases b:cH wr t with
  |none=>simp[b]at e;subst e;simp[gD,fw,b]|some E=>simp[b]at e;subst e;simp[gD,fw,b]
 |const v=>
  simp only[hF]at e;cases d:rf v with
  |none=>grind|some a=>simp[d]at e;subst e;simp[gD,fw,d]
 |global g=>simp[hF]at e;subst e;rfl|func f=>simp[hF]at e;subst e;rfl
def P0{wr:List (Nat×Nat)}(ad:List (Nat×y))(z:B y):∀{l:List Operand}{cs:List gc}{aF:List y},to wr l=some cs->o1 ad z cs=some aF->
 aF.length=l.length/\∀(i:Nat) x,l[i]? =some x->∃v,aF[i]? =some v/\fw wr ad z x=some v:=by
 intro l;induction l with|nil=>intro cs aF d c;simp[to]at d;subst d;simp[o1]at c;subst c;simp|cons x l U=>intro cs aF d c;simp only[to]at d;cases n:hF wr x with|none=>grind|some s=>cases m:to wr l with|none=>grind|some p=>simp[n,m]at d;subst d;simp only[o1]at c;cases g:gD s ad z with|none=>grind|some v=>cases I:o1 ad z p with|none=>simp[g,I]at c|some r=>simp[g,I]at c;subst c;obtain⟨a,b⟩:=U m I;refine⟨by simp[a],λi h f=> ?_⟩;cases i with|zero=>simp at f;subst f;exact⟨v,Zs,by rw[<-h4 n];exact g⟩|succ i=>simp at f;simpa using b i h f
def PY{ab:Operand->Option y}:∀{l:List Operand}{aF:List y},jT ab l=some aF->
 aF.length=l.length/\∀(i:Nat) x,l[i]? =some x->∃v,aF[i]? =some v/\ab x=some v:=by
 intro l;induction l with|nil=>intro aF e;simp[jT]at e;subst e;simp|cons x l U=>intro aF e;simp only[jT]at e;grind
def GL{ab:Operand->Value}{n:Operand->Option y}{l:List Operand}{aF:List y}(m:fq D Q ab n l)(p:aF.length=l.length)
 (d:∀(i:Nat) x,l[i]? =some x->∃v,aF[i]? =some v/\n x=some v):l.map ab=bd D aF/\cu Q aF:=by
 constructor
 ·rw[jp];apply Y5;intro i;rw[Zn,Zn];cases g:l[i]? with|none=>grind|some x=>obtain⟨v,c,a⟩:=d i x g;rw[c];simp[(m x (Zl g) v a).1]
 ·rw[md];intro v c;obtain⟨i,af⟩:=Z4.1 c;have f:i<l.length:=by grind
  obtain⟨M,b,a⟩:=d i l[i] (Zb f);rw[af]at b;simp at b;subst b;exact(m _ (zs f) v a).2
def lx{ab:Operand->Value}{b:Operand->Option y}{a:Array Operand}{aF:List y}(f:fq D Q ab b a.toList)(e:jT b a.toList=some aF):
 a.map ab=(bd D aF).toArray/\cu Q aF:=by
 obtain⟨c,d⟩:=PY e;obtain⟨g,i⟩:=GL f c d;grind
def IS(q:IntKind)(n:Int):im q n=q.wrap n:=by
 cases q<;>simp only[im]<;>try rfl
 simp only[c3,IntKind.wrap,IntKind.bits,IntKind.signed,Zf,ge_iff_le];grind
@[simp] def ado(q:IntKind)(n:Int):gf q n=some (.int q (q.wrap n)):=by simp[gf,IS]
@[simp] def Gd(q:IntKind)(n:Int):hf q n=some (.int q n):=by simp[hf]
@[simp] def yx(b:Bool):iz b=some (.bool b):=by cases b<;>rfl
@[simp] def sp{α:Type _}(c:Bool)(a:Option α)(v:α):a8 c none a=some v↔c=false/\a=some v:=by cases c<;>simp
@[simp] def qM(x h:Int):jX x h=decide (x=h):=by
  rw[Yg,Zf];cases x<;>cases h
  ·exact⟨λe=>by rw[Zr e],λe=>by cases e;exact zd _⟩
  ·exact⟨(λe=>by cases e),(λe=>by cases e)⟩
  ·exact⟨(λe=>by cases e),(λe=>by cases e)⟩
  ·exact⟨λe=>by rw[Zr e],λe=>by cases e;exact zd _⟩
@[simp] def k6(x h:Int):m5 x h=decide (x<h):=by
  rw[Yg,Zf];cases x with
  |ofNat a=>cases h with
   |ofNat b=>show Nat.blt a b=true↔(a:Int)<(b:Int);simp[Nat.blt];omega|negSucc b=>show false=true↔(a:Int)<Int.negSucc b;simp;omega
  |negSucc a=>cases h with|ofNat b=>show true=true↔Int.negSucc a<(b:Int);simp;omega|negSucc b=>show Nat.blt b a=true↔Int.negSucc a<Int.negSucc b;simp;omega
@[simp] def RW(q a:IntKind):i1 q a=decide (q=a):=by cases q<;>cases a<;>rfl
@[simp] def adg(a b:Bool):sm a b=(a==b):=by cases a<;>cases b<;>rfl
def NH{op:BinOp}{q:IntKind}{x h:Int}{v:y}(t:TypeId)(e:gB op q x h=some v)(b:gF op=false):
 (binOp op t (.int q x) (.int q h)).run C.P w=.ok (aq D v) w/\bp Q v:=by
 cases op<;>simp[gB,gF,binOp,Op.intDiv,Op.intBits,Op.intCmp]at e b ⊢ <;>
  first
  |(subst e;simp[aq];done)|(obtain⟨a,e⟩:=e;subst e;simp[aq,bp,a];done)|(subst e;exact⟨rfl,trivial⟩)|(subst e;refine⟨?_,trivial⟩;simp only[aq];congr 1;rw[Yg];simp;done)
def NO{op:BinOp}{q b:IntKind}{x h:Int}{v:y}(t:TypeId)(e:tL op q x h=some v):
 (binOp op t (.int q x) (.int b h)).run C.P w=.ok (aq D v) w/\bp Q v:=by
 unfold tL at e;simp only[k6,sp,Zc]at e;obtain⟨a,e⟩:=e;cases op<;>simp[binOp,Op.shift,a]at e ⊢;all_goals(subst e;simp[aq,bp])
def Ep{op:BinOp}{x h v:y}(t:TypeId)(e:aH op x h=some v):
 (binOp op t (aq D x) (aq D h)).run C.P w=.ok (aq D v) w/\bp Q v/\∃q a g b,x=.int q a/\h=.int g b:=by
 unfold aH at e;split at e
 ·rename_i q a g b;by_cases c:gF op=true
  ·simp only[c]at e;obtain⟨d,f⟩:=NO (D:=D) (w:=w) t e;exact⟨d,f,_,_,_,_,rfl,rfl⟩
  ·have c:gF op=false:=(by grind);simp only[c,ge,RW,cL,Zf]at e;obtain⟨rfl,e⟩:=e;obtain⟨d,f⟩:=NH (D:=D) (w:=w) t e c;exact⟨d,f,_,_,_,_,rfl,rfl⟩
 ·grind
def vt(D:bT)(Q:Nat->Prop)(P:Program)(w:World)(s:Sem Next)(v:y):Prop:=s.run P w=.ok (.value (aq D v)) w/\bp Q v
def h3{P:Program}{s:Sem Value}{v:y}(e:s.run P w=.ok (aq D v) w/\bp Q v):vt D Q P w (do pure (.value (<-s))) v:=by refine⟨?_,e.2⟩;simp_all
def Er(I:bV C D Q j k aN w){t:TypeId}(l:qO C t=some false){a v:y}(g:bp Q a)(e:ay C j a=some v):
 (Instr.loadAt t (aq D a)).run C.P w=.ok (aq D v) w/\bp Q v:=by
 unfold ay at e;split at e
 ·rename_i b J;split at e
  ·rename_i c i;obtain⟨d,f⟩:=EV I g i e;refine⟨?_,f⟩;simp[Instr.loadAt,Instr.sureAddr,aq,loadVar,xr l,d]
  ·grind
 ·grind
def Es(I:bV C D Q j k aN w){t:TypeId}{n:Nat}(r:qO C t=some true)(p:fd C t=some n){a v:y}(g:bp Q a)(e:b4 C j n a=some v):
 (Instr.loadAt t (aq D a)).run C.P w=.ok (aq D v) w/\bp Q v:=by
 unfold b4 at e;split at e
 ·rename_i b J;split at e
  ·rename_i c i;split at e
   ·rename_i l m;simp at e;subst e;obtain⟨d,f⟩:=vT I g i m;refine⟨?_,f⟩;simp[Instr.loadAt,Instr.sureAddr,aq,loadVar,xr r,ja p,d]
   ·grind
  ·grind
 ·grind
def Et(I:bV C D Q j k aN w){t:TypeId}{a v:y}(c:bp Q a)(e:gW C j t a=some v):
 (Instr.loadAt t (aq D a)).run C.P w=.ok (aq D v) w/\bp Q v:=by
 unfold gW at e;split at e
 ·rename_i s b d;exact Es I b d c e
 ·rename_i b;exact Er I b c e
 ·grind
def ht{a b:Nat}(e:Nat.blt a b=true):a<b:=by simp_all
def fu{a b:Nat}(e:Nat.ble a b=true):a<=b:=by simp_all
def q6{v:y}{n:Nat}(e:hg v=some n):∃q,v=.int q (Int.ofNat n):=by
 unfold hg at e;split at e
 ·rename_i q aw;split at e
  ·simp_all
  ·grind
 ·grind
def P5{s:TypeId}{d:Array Field}{f aw:Nat}{c:Field}(l:C.P.underlying s=some (.struct d))(p:d.toList[f]? =some c)
 (m:fd C c.type=some aw)(n:aw≠0){a v:y}(g:bp Q a)(e:d2 c.offset a=some v):
 (Instr.fieldAt s (aq D a) f).run C.P w=.ok (aq D v) w/\bp Q v:=by
 unfold d2 at e;split at e
 ·rename_i b J;simp at e;subst e;have i:d[f]? =some c:=by grind
  refine⟨?_,g⟩;simp[Instr.fieldAt,run_underlying l,i,Instr.sureAddr,aq,fieldPlace,ja m,n,ko,Yi]
 ·grind
def RG{t:TypeId}{n aO i:Nat}{cp:TypeId}(g:C.P.underlying t=some (.array n cp))(l:fd C cp=some aO)
 {a v:y}{q:IntKind}(d:bp Q a)(e:vh n aO a i=some v):
 (Instr.indexAt t (aq D a) (.int q (Int.ofNat i))).run C.P w=.ok (aq D v) w/\bp Q v:=by
 unfold vh at e;split at e
 ·rename_i b J;simp only[cL,Zh]at e;obtain⟨c,rfl⟩:=e;have f:=ht c;refine⟨?_,d⟩;simp[Instr.indexAt,asIntOf,run_underlying g,Instr.sureAddr,aq,ja l,f,ko,Yi]
 ·grind
def RJ{t:TypeId}{aO i:Nat}{cp:TypeId}(g:C.P.underlying t=some (.slice cp))(l:fd C cp=some aO)
 {a v:y}{q:IntKind}(f:bp Q a)(e:pM aO a i=some v):
 (Instr.indexAt t (aq D a) (.int q (Int.ofNat i))).run C.P w=.ok (aq D v) w/\bp Q v:=by
 unfold pM at e;split at e
 ·rename_i b J n _;simp only[cL,Zh]at e;obtain⟨c,rfl⟩:=e;have d:=ht c;refine⟨?_,f⟩;simp[Instr.indexAt,asIntOf,run_underlying g,aq,ja l,d,ko,Yi]
 ·rename_i b J n _;simp only[cL,Zh]at e;obtain⟨c,rfl⟩:=e;have d:=ht c;refine⟨?_,f⟩;simp[Instr.indexAt,asIntOf,run_underlying g,aq,ja l,d,ko,Yi]
 ·simp at e
def ade{a v:y}(d:bp Q a)(e:hm a=some v):v=a/\(∀oper:Oper,∀ab:Operand->Value,∀x,oper.op=.nilCheck x->ab x=aq D a->(execOp ab oper).run C.P w=.ok (.value (aq D v)) w):=by
 unfold hm at e;split at e
 ·simp at e;subst e;refine⟨rfl,λoper ab x b c=> ?_⟩;simp[execOp,b,c,aq]
 ·split at e
  ·simp at e;subst e;refine⟨rfl,λoper ab x b c=> ?_⟩;simp[execOp,b,c,aq,hN]
  ·simp at e;subst e;refine⟨rfl,λoper ab x b c=> ?_⟩;simp[execOp,b,c,aq,hN]
  ·simp at e
 ·simp at e;subst e;refine⟨rfl,λoper ab x b c=> ?_⟩;simp[execOp,b,c,aq]
 ·simp at e
def adc{i:Nat}{a v:y}(b:bp Q a)(e:hH i a=some v):(Instr.extract (aq D a) i).run C.P w=.ok (aq D v) w/\bp Q v:=by
 unfold hH at e;split at e
 ·rename_i aF;rw[jB]at e;refine⟨?_,(md Q aF).1 b v (Zl e)⟩;simp[Instr.extract,aq,jp,e]
 ·grind
def Fz{ab:Operand->Value}{f:Operand->Option y}:∀{l:List (Nat×Operand)}{b2:List (Nat×y)},fq D Q ab f (l.map (·.2))->nW f l=some b2->
 l.map (λx=>(x.1,ab x.2))=b2.map (λx=>(x.1,aq D x.2))/\∀x∈b2,bp Q x.2:=by
 intro l;induction l with|nil=>intro b2 _ e;simp[nW]at e;subst e;simp|cons a l U=>intro b2 p e;obtain⟨i,x⟩:=a;simp only[nW]at e;cases m:f x with|none=>grind|some v=>cases g:nW f l with|none=>grind|some r=>simp[m,g]at e;subst e;obtain⟨a,b⟩:=U (λh n=>p h (by simp at n ⊢;exact .inr n)) g;obtain⟨c,d⟩:=p x Zs v m;grind
def l2(D:bT)(v:y):(aq D v).cells=(bd D v.cells).toArray:=by cases v<;>simp[aq,Value.cells,y.cells,bd]
def lB{v:y}(e:bp Q v):cu Q v.cells:=by cases v with|agg cs=>exact e|_=>exact⟨e,trivial⟩
def Ql(D:bT):∀(aF:List y) (cs:List y) (off q:Nat),
 ((bd D aF).zipIdx q).foldl (λ(cs:Array Value) (x:Value×Nat)=>cs.setIfInBounds (off+x.2) x.1) (bd D cs).toArray=(bd D (iH cs (off+q) aF)).toArray:=by
 intro aF;induction aF with
 |nil=>intro cs off q;rfl|cons v aF U=>
  intro cs off q;simp only[bd,List.zipIdx_cons,Z8];have:(bd D cs).toArray.setIfInBounds (off+q) (aq D v)=(bd D (cs.set (off+q) v)).toArray:=by simp[jp]
  rw[this,U];rfl
def QO{cs:List y}{i:Nat}{v:y}(e:cu Q cs)(a:bp Q v):cu Q (cs.set i v):=by rw[md]at e ⊢;grind
def QP:∀(aF cs:List y) (J:Nat),cu Q cs->cu Q aF->cu Q (iH cs J aF):=by intro aF;induction aF with|nil=>intro cs J e _;exact e|cons v aF U=>intro cs J e a;exact U _ _ (QO e a.1) a.2
def y2{f xa:Nat->Option (Nat×Nat)}(s:∀i x,f i=some x->xa i=some x):∀(b2:List (Nat×y)) (cs r:List y),cu Q cs->(∀x∈b2,bp Q x.2)->
 o4 f cs b2=some r->Instr.fill xa (bd D cs).toArray (b2.map λx=>(x.1,aq D x.2))=some (bd D r).toArray/\cu Q r:=by
 intro b2;induction b2 with
 |nil=>intro cs r e _ c;simp[o4]at c;subst c;exact⟨rfl,e⟩|cons p b2 U=>
  intro cs r e l c;obtain⟨i,v⟩:=p;simp only[o4]at c;cases m:f i with
  |none=>grind|some x=>
   obtain⟨off,size⟩:=x;simp only[m,cL,Zt]at c;obtain⟨⟨d,g⟩,c⟩:=c;have d:=Zr d;have g:=fu g;have n:=l (i,v) Zs;obtain⟨a,b⟩:=U (iH cs off v.cells) r (QP _ _ _ e (lB n)) (λx t=>l x (by simp[t])) c;refine⟨?_,b⟩;simp only[ZH,Instr.fill,s _ _ m,l2];have w:(bd D v.cells).length=size:=(by rw[jp,Zj,d]);have A:(bd D cs).length=cs.length:=(by rw[jp,Zj]);rw[Zi]
   ·rw[<-a];congr 1;have:=Ql D v.cells cs off 0;simp;simpa using this
   ·simp;omega
def abh{α cz:Type}(P:Program)(w:World)(f:α->Sem cz)(g:α->cz):∀(l:List α),(∀a∈l,(f a).run P w=.ok (g a) w)->(l.mapM f).run P w=.ok (l.map g) w:=by intro l;induction l with|nil=>simp_all|cons a l U=>simp_all
def acm{a:List Field}{i:Nat}{x:Nat×Nat}(e:BF C a i=some x):∃f s,a[i]? =some f/\fd C f.type=some s/\x=(f.offset,s):=by unfold BF at e;rw[jB]at e;grind
def tK{t:TypeId}{cs:List y}{off:Nat}{v:y}(b:cu Q cs)(e:p8 C t cs off=some v):
 (part t (bd D cs).toArray off).run C.P w=.ok (aq D v) w/\bp Q v:=by
 unfold p8 at e;split at e
 ·rename_i s a c;simp at e;subst e;constructor
  ·simp only[part,Sem.run_bind,xr a,Result.andThen_ok,ZK,ja c,Sem.run_pure,aq,jp];simp_all
  ·simp only[bp];rw[md]at b ⊢;exact λx d=>b x (zq (Y6 d))
 ·rename_i a;rw[jB]at e;constructor
  ·simp[part,xr a,jp,e]
  ·exact(md Q cs).1 b v (Zl e)
 ·simp at e
def NG{t:TypeId}{x i v:y}(f:bp Q x)(e:vI C t x i=some v):(Instr.index t (aq D x) (aq D i)).run C.P w=.ok (aq D v) w/\bp Q v:=by
 unfold vI at e;split at e
 ·grind
 ·rename_i n A;obtain⟨q,rfl⟩:=q6 A;split at e
  ·rename_i m cp cs b;split at e
   ·rename_i aO G;simp only[cL]at e;obtain⟨g,l⟩:=e;have a:=ht g;obtain⟨p,r⟩:=tK (D:=D) (w:=w) f l;refine⟨?_,r⟩;simp[Instr.index,asIntOf,aq,run_underlying b,a,ja G,p]
   ·simp at e
  ·rename_i s b;rw[jB]at e;split at e
   ·rename_i c d;simp at e;subst e;refine⟨?_,trivial⟩;have T:(dz s)[n]? =some (UInt8.ofNat c):=(by show(dz s).data[n]? =_;simp[dz,d]);have a:=f c (Zl d);simp[Instr.index,asIntOf,aq,run_underlying b,T,zb a]
   ·simp at e
  ·simp at e
def NS{op:UnOp}{x v:y}(e:dP op x=some v):(Op.unary op (aq D x)).run C.P w=.ok (aq D v) w/\bp Q v:=by
 unfold dP at e;split at e
 ·rename_i q n;simp[gB]at e;subst e;exact⟨by simp[Op.unary,Op.intArith,aq],trivial⟩
 ·rename_i q n;simp[gB]at e;subst e;exact⟨rfl,trivial⟩
 ·simp at e;subst e;exact⟨rfl,trivial⟩
 ·grind
def TI:∀{l:List Field},w2 C l=true->∀f∈l,∃s,fd C f.type=some s:=by intro l;induction l with|nil=>grind|cons a l U=>intro e f b;simp only[w2,Zt]at e;grind
def NA{t:TypeId}{b2:List (Nat×y)}{v:y}(p:∀x∈b2,bp Q x.2)(e:vF C t b2=some v):
 (Instr.build t ((b2.map λx=>(x.1,aq D x.2)).toArray)).run C.P w=.ok (aq D v) w/\bp Q v:=by
 unfold vF at e;split at e
 ·grind
 ·rename_i aw X;obtain⟨r,A⟩:=pF X D Q w;split at e
  ·rename_i d l;simp only[cL]at e;obtain⟨O,e⟩:=e;split at e
   ·rename_i cs g;simp at e;subst e;have N:(d.mapM λf=>do pure (f.offset, <-sizeOf f.type):Sem (Array (Nat×Nat))).run C.P w=.ok (d.toList.map λf=>(f.offset,(fd C f.type).getD 0)).toArray w:=by
     rw[Array.mapM_eq_mapM_toList,Sem.run_map,abh C.P w _ (λf:Field=>(f.offset,(fd C f.type).getD 0)) _ (λf L=>by
      obtain⟨s,c⟩:=TI O f L;simp[ja c,c])]
     rfl
    obtain⟨a,b⟩:=y2 (D:=D) (xa:=λi=>((d.toList.map λf=>(f.offset,(fd C f.type).getD 0)).toArray)[i]?) (λi x P=>by
     obtain⟨f,s,m,G,rfl⟩:=acm P;simp at m;simp[m,G]) b2 aw.cells cs (lB A) p g
    refine⟨?_,b⟩;simp only[Instr.build,Sem.run_bind,r,Result.andThen_ok,run_underlying l,N,l2,a,aq,Sem.run_pure]
   ·simp at e
  ·rename_i n cp l;split at e
   ·rename_i s c;split at e
    ·rename_i cs g;simp at e;subst e;obtain⟨a,b⟩:=y2 (D:=D) (λ_ _ e=>e) b2 aw.cells cs (lB A) p g;refine⟨?_,b⟩;simp[Instr.build,r,run_underlying l,ja c,l2,a,aq]
    ·simp at e
   ·simp at e
  ·simp at e
def Hg{a b:Nat}(c:a<256)(T:b<256)(e:UInt8.ofNat a=UInt8.ofNat b):a=b:=by have:=congrArg UInt8.toNat e;simp at this;omega
def uT:∀(x h:List Nat),hC x h=true↔x=h
 |[],[]=>by simp[hC]|[],_::_=>by simp[hC]|_::_,[]=>by simp[hC]|a::x,b::h=>by simp only[hC,Zt,uT x h,zy];exact⟨λ⟨e,u⟩=>⟨Zr e,u⟩,λ⟨e,u⟩=>⟨by rw[e];exact zd _,u⟩⟩
def SV:∀{x h:List Nat},(∀a∈x,a<256)->(∀a∈h,a<256)->x.map UInt8.ofNat=h.map UInt8.ofNat->x=h:=by intro x;induction x with|nil=>simp_all|cons a x U=>intro h f g e;cases h with|nil=>grind|cons b h=>simp only[ZH,zy]at e;rw[Hg (f a Zs) (g b Zs) e.1,U (λc d=>f c (by simp[d])) (λc d=>g c (by simp[d])) e.2]
def vR(s:List Nat):(dz s).toList=s.map UInt8.ofNat:=by rw[ByteArray.toList_eq];simp[dz]
def BE{x h:List Nat}(b:∀a∈x,a<256)(c:∀a∈h,a<256):((dz x).toList==(dz h).toList)=hC x h:=by rw[Yg,uT,zz,vR,vR];exact⟨SV b c,λe=>by rw[e]⟩
def Ig:∀{x h:List Nat},(∀a∈x,a<256)->(∀a∈h,a<256)->Op.bytesLess (x.map UInt8.ofNat) (h.map UInt8.ofNat)=pw x h
 |[],[],_,_=>rfl|[],_::_,_,_=>rfl|_::_,[],_,_=>rfl|a::x,b::h,f,g=>by
  have m:=f a Zs;have T:=g b Zs;have U:=Ig (λc d=>f c (Zw _ d)) (λc d=>g c (Zw _ d));simp only[ZH,Op.bytesLess,pw,U];have i:decide (UInt8.ofNat a<UInt8.ofNat b)=Nat.blt a b:=by rw[Yg,Zf,UInt8.lt_iff_toNat_lt];simp[Nat.blt];omega
  have l:(UInt8.ofNat a==UInt8.ofNat b)=Nat.beq a b:=by rw[Yg,zz];exact⟨λe=>by rw[Hg m T e];exact zd _,λe=>by rw[Zr e]⟩
  rw[i,l]
def xf(I:bV C D Q j k aN w){b J:Nat}(T:Q b)(e:pp C j b J=true):
 ∃c n st bg ty aW af,F C j b=some (.cells c n st)/\J<n/\w.heap[(D b).bx]? =some (.cells bg ty (aW,af))/\se st n (D b) bg.size aW af/\(D b).cm+n<=bg.size/\st≠ .fD:=by
 unfold pp at e;split at e
 ·grind
 ·rename_i c n st a d;obtain⟨bg,ty,aW,af,f,g,i,_⟩:=I.obj b _ d T;exact⟨c,n,st,bg,ty,aW,af,d,ht (by simpa using e),f,g,i,λu=>(by subst u;first|exact a _ d|exact a _ rfl|exact a rfl|exact a d|simp_all)⟩
 ·grind
def Hx{b J:Nat}(e:ta C j b J=true):pp C j b J=true/\C.aD<=b/\∃c n,F C j b=some (.cells c n .own):=by
 unfold ta at e;unfold pp;split at e
 ·rename_i c n a;simp only[a,Zt]at e ⊢;exact⟨e.2,fu e.1,c,n,rfl⟩
 ·grind
def Bt{r:Nat}{bg:Array Value}{ty:TypeId}{f:Nat×Nat}(e:w.heap[r]? =some (.cells bg ty f)):w.shape? r=some (ty,bg.size):=by simp[World.shape?,e]
def H0{P:Program}{p V:Nat}{x h:Nat}{aL bs:Array Value}{t1 v:TypeId}{bG i b l:Nat}(m:p≠V)
 (a:w.heap[p]? =some (.cells aL t1 (bG,i)))(c:w.heap[V]? =some (.cells bs v (b,l)))(C:i<=bG)(L:x<aL.size)(N:h<bs.size)(G:l<=b\/bs.size<=b):
 (sameAddr ⟨p,x,none⟩ ⟨V,h,none⟩).run P w=.ok false w/\(sameAddr ⟨V,h,none⟩ ⟨p,x,none⟩).run P w=.ok false w:=by
 have d:w.frozen? ⟨p,x,none⟩=false:=by simp[World.frozen?,a];omega
 have f:w.frozen? ⟨V,h,none⟩=false:=by simp[World.frozen?,c];omega
 have g:w.frozen? ⟨p,aL.size,none⟩=false:=by simp[World.frozen?,a];omega
 have n:=Bt a;have r:=Bt c;have A:aL.size≠0:=Zo;have s:bs.size≠0:=Zo;have t:V≠p:=λu=>m u.symm;constructor
 ·simp[sameAddr,m,d,f,g,noView,viewAt,n,r,mayBeOne,stringish,s]
 ·simp[sameAddr,t,d,f,g,noView,viewAt,n,r,mayBeOne,stringish,A,s]
def aat(I:bV C D Q j k aN w){b J a dH:Nat}{r:Bool}(T:Q b)(f:Q a)(e:ptrEq C j b J a dH=some r):
 (sameAddr ⟨(D b).bx,(D b).cm+J,none⟩ ⟨(D a).bx,(D a).cm+dH,none⟩).run C.P w=.ok r w:=by
 unfold ptrEq at e;rw[er]at e;split at e
 ·rename_i u;subst u;simp at e;subst e;simp only[sameAddr,YQ,ZK,Sem.run_pure];congr 1;rw[Yg,zz];constructor
  ·intro e;simp at e;rw[e];exact zd _
  ·intro e;rw[Zr e]
 ·rename_i P;simp only[cL,Y4,Zt,Zh]at e;obtain⟨e,rfl⟩:=e;rcases e with ⟨i,l⟩|⟨i,l⟩
  ·obtain⟨m,p,c,n,s⟩:=Hx i;obtain⟨bS,ak,A,aL,t1,bG,T2,d,T4,G,N,a7,_⟩:=xf I T m;obtain⟨bU,ar,T0,bs,T1,X,T3,g,T5,L,O,bl,x⟩:=xf I f l;have v:A=.own:=(by rw[s]at d;cases d;rfl);subst v;have t:(D b).bx≠(D a).bx:=(by intro u;rcases(I.sep b a _ _ d g T f P p u).1 with ⟨_,_,_,_,V,_⟩|⟨_,_,_,_,_,V,_⟩|⟨_,_,_,_,_,_,V,_⟩<;>cases V);exact(H0 t G L (zr N.symm) Zo Zo (O.free x)).1
  ·obtain⟨m,p,c,n,s⟩:=Hx i;obtain⟨bS,ak,A,aL,t1,bG,T2,d,T4,G,N,a7,_⟩:=xf I f m;obtain⟨bU,ar,T0,bs,T1,X,T3,g,T5,L,O,bl,x⟩:=xf I T l;have v:A=.own:=(by rw[s]at d;cases d;rfl);subst v;have t:(D a).bx≠(D b).bx:=(by intro u;rcases(I.sep a b _ _ d g f T (λV=>P V.symm) p u).1 with ⟨_,_,_,_,V,_⟩|⟨_,_,_,_,_,V,_⟩|⟨_,_,_,_,_,_,V,_⟩<;>cases V);exact(H0 t G L (zr N.symm) Zo Zo (O.free x)).2
def ND{eq:Nat->y->y->Option Bool}{d:Nat}(i:∀t x h r,bp Q x->bp Q h->eq t x h=some r->(Op.equalIn d t (aq D x) (aq D h)).run C.P w=.ok r w):
 ∀(fR:List Field) (c g:List y) (r:Bool),cu Q c->cu Q g->p6 C eq fR c g=some r->(Op.eqFields d (bd D c).toArray (bd D g).toArray fR).run C.P w=.ok r w:=by
 intro fR;induction fR with
 |nil=>intro c g r _ _ e;simp[p6]at e;subst e;simp[Op.eqFields]|cons f fR U=>
  intro c g r m n e;simp only[p6,sp,beq_eq_false_iff_ne]at e;obtain⟨l,e⟩:=e;split at e
  ·rename_i a b p T;obtain⟨aL,bs⟩:=tK (D:=D) (w:=w) m p;obtain⟨bb,bn⟩:=tK (D:=D) (w:=w) n T;split at e
   ·rename_i u;simp only[Op.eqFields,l,ne_eq,ZN,ZK,Sem.run_bind,aL,bb,i _ _ _ _ bs bn u,Result.andThen_ok];exact U c g r m n e
   ·rename_i u;simp at e;subst e;simp only[Op.eqFields,l,ne_eq,ZN,ZK,Sem.run_bind,aL,bb,i _ _ _ _ bs bn u,Result.andThen_ok,YN,Sem.run_pure]
   ·simp at e
  ·simp at e
def yn(I:bV C D Q j k aN w):∀(d f:Nat) (t:Nat) (x h:y) (r:Bool),d<=f->bp Q x->bp Q h->f3 C j d t x h=some r->
 (Op.equalIn f t (aq D x) (aq D h)).run C.P w=.ok r w:=by
 intro d;induction d with
 |zero=>intro f t x h r _ _ _ e;simp[f3]at e|succ d U=>
  intro f t x h r al g l e;obtain⟨f,rfl⟩:∃u,f=u+1:=⟨f-1,Zo⟩;unfold f3 at e;split at e
  ·rename_i c;simp at e;subst e;simp[Op.equalIn,run_underlying c,aq]
  ·rename_i c;simp at e;obtain⟨rfl,rfl⟩:=e;simp[Op.equalIn,run_underlying c,aq];rfl
  ·rename_i a b c;simp at e;subst e;rw[aq,aq,run_equalIn_string w f t _ _ c,BE g l]
  ·rename_i c;simp at e;subst e;simp[Op.equalIn,run_underlying c,aq]
  ·rename_i c;simp at e;subst e;simp[Op.equalIn,run_underlying c,aq]
  ·rename_i c;simp at e;subst e;simp[Op.equalIn,run_underlying c,aq]
  ·rename_i u b J O dH c;split at e
   ·rename_i s A;rw[er]at e;split at e
    ·simp at e
    ·rename_i G;have:=aat I g l e;simp[Op.equalIn,run_underlying c,aq,ja A,G,this]
   ·simp at e
  ·rename_i c;simp at e;subst e;simp[Op.equalIn,run_underlying c,aq]
  ·rename_i c;simp at e;subst e;simp[Op.equalIn,run_underlying c,aq]
  ·rename_i c;simp at e;subst e;simp[Op.equalIn,run_underlying c,aq]
  ·rename_i L vc ty N c;rw[er]at e;split at e
   ·rename_i u;subst u;split at e
    ·rename_i i af;simp only[cL]at e;obtain⟨p,e⟩:=e;have:=U f L vc N r Zo g l e;simp[Op.equalIn,run_underlying c,aq,typeInfo,af,p,this]
    ·simp at e
   ·rename_i u;simp at e;subst e;simp[Op.equalIn,run_underlying c,aq,u]
  all_goals first
   |(rename_i c;simp at e;subst e;simp[Op.equalIn,run_underlying c,aq];done)|skip
  ·rename_i n P X c;simp only[sp]at e;obtain⟨v,e⟩:=e;have m:C.P.fieldsOf t=n:=by simp[Program.fieldsOf,c]
   rw[aq,aq,run_equalIn_struct w f t _ _ (by rw[m];exact c) v,m];exact ND (λt x h r g l e=>U f t x h r Zo g l e) _ _ _ _ g l e
  ·simp at e
end
end Go.aC
