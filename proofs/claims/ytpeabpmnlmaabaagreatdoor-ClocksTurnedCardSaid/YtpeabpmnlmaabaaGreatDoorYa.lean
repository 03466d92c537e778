/- Part of the proof of the last text; no conditions -/
import GoSem.Step
import Derived.Below
import Derived.ChangeKeysEq
import Derived.Laws.IdiomCopy
import Derived.Laws.Unary
import Derived.Laws.Wrap64
import Derived.Laws.StructEq
import Derived.Laws.BytesString
import Derived.MapKept
set_option maxHeartbeats 8000000
set_option linter.all false
namespace Go
def Zo{p:Prop}(h:p:=by omega):p:=h
def Za{p q:Prop}(a:p)(b:q):p/\q:=⟨a,b⟩
def Zd{p:Prop}(h:p:=by decide):p:=h
def Zs{p:Prop}(h:p:=by simp):p:=h
def Zx{p:Prop}(h:p:=by simp;omega):p:=h
def Zk{p:Prop}(h:p:=by kernel_rfl):p:=h
def Zb:type_of%@List.getElem?_eq_some_iff:=@List.getElem?_eq_some_iff
def Zc:type_of%@decide_eq_false_iff_not:=@decide_eq_false_iff_not
def Ze:type_of%@List.getElem?_eq_getElem:=@List.getElem?_eq_getElem
def Zf:type_of%@Option.some.injEq:=@Option.some.injEq
def Zg:type_of%@if_neg:=@if_neg
def Zh:type_of%@decide_eq_true_eq:=@decide_eq_true_eq
def Zi:type_of%@List.length_map:=@List.length_map
def Zj:type_of%@Nat.le_refl:=@Nat.le_refl
def Zl:type_of%@List.mem_of_getElem?:=@List.mem_of_getElem?
def Zn:type_of%@Nat.eq_of_beq_eq_true:=@Nat.eq_of_beq_eq_true
def Zp:type_of%@if_pos:=@if_pos
def Zq:type_of%@Bool.and_eq_true:=@Bool.and_eq_true
def Zr:type_of%@List.drop_eq_getElem_cons:=@List.drop_eq_getElem_cons
def Zt:type_of%@List.mem_cons_of_mem:=@List.mem_cons_of_mem
def Zu:type_of%@List.mem_cons:=@List.mem_cons
def Zv:type_of%@List.mem_cons_self:=@List.mem_cons_self
def Zw:type_of%@Bool.false_eq_true:=@Bool.false_eq_true
def Zy:type_of%@List.getElem?_map:=@List.getElem?_map
def Zz:type_of%@List.mem_append:=@List.mem_append
def ZA:type_of%@List.take_of_length_le:=@List.take_of_length_le
def ZB:type_of%@if_false:=@if_false
def ZC:type_of%@List.drop_eq_nil_of_le:=@List.drop_eq_nil_of_le
def ZD:type_of%@Nat.le_trans:=@Nat.le_trans
def ZE:type_of%@List.mem_map:=@List.mem_map
def ZF:type_of%@List.length_cons:=@List.length_cons
def ZG:type_of%@if_true:=@if_true
def ZH:type_of%@List.foldl_cons:=@List.foldl_cons
def ZI:type_of%@not_false_eq_true:=@not_false_eq_true
def ZJ:type_of%@List.map_cons:=@List.map_cons
def ZK:type_of%@List.not_mem_nil:=@List.not_mem_nil
def ZL:type_of%@List.length_append:=@List.length_append
def ZM:type_of%@List.getElem?_append_right:=@List.getElem?_append_right
def ZN:type_of%@List.eq_nil_of_length_eq_zero:=@List.eq_nil_of_length_eq_zero
def ZO:type_of%@Array.getElem?_eq_some_iff:=@Array.getElem?_eq_some_iff
def ZP:type_of%@Nat.lt_of_lt_of_le:=@Nat.lt_of_lt_of_le
def ZQ:type_of%@Array.getElem?_toList:=@Array.getElem?_toList
def ZR:type_of%@Nat.add_assoc:=@Nat.add_assoc
def ZS:type_of%@Option.map_some:=@Option.map_some
def ZT:type_of%@Nat.zero_add:=@Nat.zero_add
def ZU:type_of%@List.length_pos_iff:=@List.length_pos_iff
def ZV:type_of%@List.getElem?_cons_succ:=@List.getElem?_cons_succ
def ZW:type_of%@List.map_append:=@List.map_append
def ZX:type_of%@Nat.add_zero:=@Nat.add_zero
def ZY:type_of%@List.take_add_one:=@List.take_add_one
def ZZ:type_of%@Option.bind_some:=@Option.bind_some
def Z0:type_of%@List.length_nil:=@List.length_nil
def Z1:type_of%@Option.bind_eq_some_iff:=@Option.bind_eq_some_iff
def Z2:type_of%@List.mem_iff_getElem?:=@List.mem_iff_getElem?
def Z3:type_of%@Option.isSome_none:=@Option.isSome_none
def Z4:type_of%@Nat.mul_one:=@Nat.mul_one
def Z5:type_of%@List.getElem?_cons_zero:=@List.getElem?_cons_zero
def Z6:type_of%@List.getElem?_eq_none:=@List.getElem?_eq_none
def Z7:type_of%@List.getElem?_append_left:=@List.getElem?_append_left
def Z8:type_of%@Nat.add_mul:=@Nat.add_mul
def Z9:type_of%@Bool.eq_iff_iff:=@Bool.eq_iff_iff
def Ya:type_of%@Option.isSome_some:=@Option.isSome_some
def Yb:type_of%@and_true:=@and_true
def Yc:type_of%@List.take_zero:=@List.take_zero
def Yd:type_of%@Nat.le_succ:=@Nat.le_succ
def Ye:type_of%@Int.eq_ofNat_of_zero_le:=@Int.eq_ofNat_of_zero_le
def Yf:type_of%@Option.some.inj:=@Option.some.inj
def Yg:type_of%@List.drop_zero:=@List.drop_zero
def Yh:type_of%@List.append_nil:=@List.append_nil
def Yi:type_of%@List.getElem?_drop:=@List.getElem?_drop
def Yj:type_of%@Option.map_eq_some_iff:=@Option.map_eq_some_iff
def Yk:type_of%@List.set_cons_zero:=@List.set_cons_zero
def Yl:type_of%@decide_false:=@decide_false
def Ym:type_of%@List.all_eq_true:=@List.all_eq_true
def Yn:type_of%@Nat.lt_succ_self:=@Nat.lt_succ_self
def Yo:type_of%@List.take_succ_cons:=@List.take_succ_cons
def Yp:type_of%@List.flatten_cons:=@List.flatten_cons
def Yq:type_of%@or_false:=@or_false
def Yr:type_of%@List.set_cons_succ:=@List.set_cons_succ
def Ys:type_of%@Bool.and_self:=@Bool.and_self
def Yt:type_of%@List.map_map:=@List.map_map
def Yu:type_of%@List.drop_succ_cons:=@List.drop_succ_cons
def Yv:type_of%@List.size_toArray:=@List.size_toArray
def Yw:type_of%@Bool.not_true:=@Bool.not_true
def Yx:type_of%@Bool.not_false:=@Bool.not_false
def Yy:type_of%@List.length_drop:=@List.length_drop
def Yz:type_of%@List.length_take:=@List.length_take
def YA:type_of%@Prod.mk.injEq:=@Prod.mk.injEq
def YB:type_of%@Array.getElem?_append_left:=@Array.getElem?_append_left
def YC:type_of%@List.map_congr_left:=@List.map_congr_left
def YD:type_of%@List.takeWhile_cons:=@List.takeWhile_cons
def YE:type_of%@List.cons.injEq:=@List.cons.injEq
def YF:type_of%@List.nil_append:=@List.nil_append
def YG:type_of%@decide_true:=@decide_true
def YH:type_of%@Nat.mod_eq_of_lt:=@Nat.mod_eq_of_lt
def YI:type_of%@beq_self_eq_true:=@beq_self_eq_true
def YJ:type_of%@Option.getD_some:=@Option.getD_some
def YK:type_of%@List.flatMap_cons:=@List.flatMap_cons
def YL:type_of%@Option.bind_assoc:=@Option.bind_assoc
def YM:type_of%@List.mem_filter:=@List.mem_filter
def YN:type_of%@List.flatten_append:=@List.flatten_append
def YO:type_of%@List.cons_append:=@List.cons_append
def YP:type_of%@Nat.eq_of_mul_eq_mul_right:=@Nat.eq_of_mul_eq_mul_right
def YQ:type_of%@List.mem_or_eq_of_mem_set:=@List.mem_or_eq_of_mem_set
def YR:type_of%@List.pairwise_iff_getElem:=@List.pairwise_iff_getElem
def YS:type_of%@List.ext_getElem?:=@List.ext_getElem?
def YT:type_of%@Int.emod_eq_of_lt:=@Int.emod_eq_of_lt
def YU:type_of%@Array.size_append:=@Array.size_append
def YV:type_of%@Nat.lt_trichotomy:=@Nat.lt_trichotomy
def YW:type_of%@List.getElem?_take_of_lt:=@List.getElem?_take_of_lt
def YX:type_of%@not_or:=@not_or
def YY:type_of%@Bool.and_true:=@Bool.and_true
def YZ:type_of%@List.length_eq_zero_iff:=@List.length_eq_zero_iff
def Y0:type_of%@Nat.le_mul_of_pos_right:=@Nat.le_mul_of_pos_right
def Y1:type_of%@List.take_length:=@List.take_length
def Y2:type_of%@Array.ext':=@Array.ext'
def Y3:type_of%@beq_iff_eq:=@beq_iff_eq
def Y4:type_of%@List.find?_eq_none:=@List.find?_eq_none
def Y5:type_of%@Bool.or_eq_true:=@Bool.or_eq_true
def Y6:type_of%@Option.map_none:=@Option.map_none
def Y7:type_of%@Array.getElem?_modify:=@Array.getElem?_modify
def Y8:type_of%@Nat.le_div_iff_mul_le:=@Nat.le_div_iff_mul_le
def Y9:type_of%@Array.mem_of_getElem?:=@Array.mem_of_getElem?
def za:type_of%@List.mapM_cons:=@List.mapM_cons
def zb:type_of%@List.mem_of_mem_drop:=@List.mem_of_mem_drop
def zc:type_of%@List.mem_of_mem_take:=@List.mem_of_mem_take
def zd:type_of%@Nat.zero_le:=@Nat.zero_le
def ze:type_of%@Nat.le_of_eq:=@Nat.le_of_eq
def zf:type_of%@Nat.beq_refl:=@Nat.beq_refl
def zg:type_of%@Nat.lt_or_ge:=@Nat.lt_or_ge
def zh:type_of%@Nat.sub_zero:=@Nat.sub_zero
def zi:type_of%@Nat.le_add_right:=@Nat.le_add_right
def zj:type_of%@List.set_nil:=@List.set_nil
def zk:type_of%@Bool.true_and:=@Bool.true_and
def zl:type_of%@List.find?_cons:=@List.find?_cons
def zm:type_of%@List.nodup_cons:=@List.nodup_cons
def zn:type_of%@Nat.mod_lt:=@Nat.mod_lt
def zo:type_of%@Bool.true_eq_false:=@Bool.true_eq_false
def zp:type_of%@List.getElem?_set:=@List.getElem?_set
def zq:type_of%@List.drop_drop:=@List.drop_drop
def zr:type_of%@Nat.le_of_lt:=@Nat.le_of_lt
def zs:type_of%@Nat.zero_mul:=@Nat.zero_mul
def zt:type_of%@Nat.not_lt:=@Nat.not_lt
def zu:type_of%@true_and:=@true_and
def zv:type_of%@Nat.mul_comm:=@Nat.mul_comm
def zw:type_of%@Nat.add_comm:=@Nat.add_comm
def zx:type_of%@Nat.sub_self:=@Nat.sub_self
def zy:type_of%@and_self:=@and_self
def zz{p q:Prop}(a:q)(h:q->p:=by intro h;omega):p:=h a
def zA(a b:Nat)(h:b<=a:=by omega):decide ((a:Int)<(b:Int))=false:=decide_eq_false (by omega)
def zB(a b:Nat)(h:a<b:=by omega):decide ((a:Int)<(b:Int))=true:=decide_eq_true (by omega)
def zC{α:Type}(l:List α)(i:Nat)(h:i<l.length:=by omega):∃x,l[i]? =some x:=⟨_,List.getElem?_eq_getElem h⟩
def zM{p:Prop}(h:p:=by intro x y z a;obtain⟨H,a,_⟩:=a;cases a):p:=h
def zN{p:Prop}(h:p:=by intro x y z a;obtain⟨E,H,a,_⟩:=a;cases a):p:=h
def zO{p:Prop}(h:p:=by simp only[Zc];omega):p:=h
def zP{p:Prop}(h:p:=by simp only[Zh];omega):p:=h
end Go
namespace Go.bg
noncomputable section
inductive S(α:Type) where
 |nil
 |node (v:Option α) (k r:S α)
 deriving Inhabited
universe ac
def b0{α:Type ac}(c:Bool)(t D:α):α:=Bool.rec (motive:=λ_=>α) D t c
def S.get{α:Type}(t:S α):Nat->Option α:=
 S.rec (motive:=λ_=>Nat->Option α) (λ_=>none)
  (λv _ _ jj rv i=>Nat.rec (motive:=λ_=>Option α) v (λV _=>b0 (Nat.beq (Nat.mod V 2) 0) (jj (Nat.div V 2)) (rv (Nat.div V 2))) i) t
def j6{α eU:Type}(t:S α)(u:S α->eU):eU:=
 S.rec (motive:=λ_=>eU) (u .nil) (λv k r _ _=>u (.node v k r)) t
def S.s1{α:Type}(f:Nat):S α->Nat->Option α->S α:=
 Nat.rec (motive:=λ_=>S α->Nat->Option α->S α) (λt _ _=>t)
  (λ_ ah t i F=>S.rec (motive:=λ_=>S α)
   (Nat.rec (motive:=λ_=>S α) (.node F .nil .nil) (λV _=>b0 (Nat.beq (Nat.mod V 2) 0)
    (j6 (ah .nil (Nat.div V 2) F) λbS=> .node none bS .nil) (j6 (ah .nil (Nat.div V 2) F) λik=> .node none .nil ik)) i)
   (λv k r _ _=>Nat.rec (motive:=λ_=>S α) (.node F k r) (λV _=>b0 (Nat.beq (Nat.mod V 2) 0)
    (j6 (ah k (Nat.div V 2) F) λbS=> .node v bS r) (j6 (ah r (Nat.div V 2) F) λik=> .node v k ik)) i) t) f
def rr{eU:Type}(n:Nat)(u:Nat->eU):eU:=Nat.rec (motive:=λ_=>eU) (u 0) (λm _=>u (Nat.succ m)) n
def Tl{eU:Type}(n:Int)(u:Int->eU):eU:=
 Int.rec (motive:=λ_=>eU) (λm=>rr m λm=>u (.ofNat m)) (λm=>rr m λm=>u (.negSucc m)) n
def ev{α:Type}(k:List (Nat×α)):Nat->Option α:=
 List.rec (motive:=λ_=>Nat->Option α) (λ_=>none) (λp _ ah V=>Prod.rec (motive:=λ_=>Option α) (λF b=>b0 (Nat.beq F V) (some b) (ah V)) p) k
def S.set{α:Type}(t:S α)(i:Nat)(F:Option α):S α:=S.s1 (i+1) t i F
def S.ofList{α:Type}:List α->Nat->S α->S α
 |[],_,t=>t
 |F::k,i,t=>j6 (t.set i (some F)) λeB=>ofList k (i+1) eB
def S.lq{α:Type}(t:S α):Nat->Nat->Option (List α)
 |_,0=>some []
 |T,n+1=>match t.get T with
  |none=>none
  |some F=>match lq t (T+1) n with
   |none=>none
   |some k=>some (F::k)
def sY{α:Type}(k:List α):Nat->Option α:=
 List.rec (motive:=λ_=>Nat->Option α) (λ_=>none) (λF _ ah i=>Nat.rec (motive:=λ_=>Option α) (some F) (λV _=>ah V) i) k
inductive E where
 |bool (b:Bool)
 |int (u:IntKind) (n:Int)
 |str (s:List Nat)
 |ptr (b T:Nat)
 |cN
 |slice (b T len cap:Nat)
 |fl (b T len bd:Nat)
 |aY
 |map (m:Nat)
 |mL
 |func (fn:Fn) (first f1:List E)
 |nilFunc
 |iface (t:Nat) (v:E)
 |nilIface
 |agg (cs:List E)
 |tuple (bk:List E)
 deriving Inhabited
def E.cells:E->List E
 | .agg cs=>cs
 |v=>[v]
def undef:E:= .tuple []
def C7{α eU:Type}(f:α->Option eU):List α->Option (List eU)
 |[]=>some []
 |F::k=>match f F with
  |none=>none
  |some b=>match C7 f k with
   |none=>none
   |some r=>some (b::r)
def Df:Nat->Value->Option E
 |0,_=>none
 |n+1,v=>match v with
  | .bool b=>some (.bool b)
  | .int u n=>some (.int u n)
  | .string s=>some (.str (s.data.toList.map (·.toNat)))
  | .pointer none=>some .cN
  | .slice none 0 0=>some .aY
  | .map none=>some .mL
  | .func (.func f) ⟨[]⟩ ⟨[]⟩=>some (.func (.func f) [] [])
  | .nilFunc=>some .nilFunc
  | .iface t v=>match Df n v with|some F=>some (.iface t F)|none=>none
  | .nilIface=>some .nilIface
  | .agg cs=>match C7 (Df n) cs.toList with|some k=>some (.agg k)|none=>none
  | .tuple cs=>match C7 (Df n) cs.toList with|some k=>some (.tuple k)|none=>none
  |_=>none
def FQ(v:Value):Option E:=Df 20 v
inductive Rj where
 |fn (fn:Fn) (f1:List E)
 |collected (r:Nat)
structure h8 where
 target:Rj
 args:List E
inductive oo where
 |own|marked|grow (eS:List Nat)|kJ
 deriving Inhabited
inductive ag where
 |cells (c:S E) (size:Nat) (st:oo)
 |map (b8:List (E×E×Nat)) (ff:Nat)
 |look (b8:List (E×E))
 |pu (s:List Nat) (pos:Nat)
 |A8 (m:Option Nat) (wV:Nat) (seen:List Nat) (ajz:Nat)
 |IV (m wV n:Nat) (ce:List Nat) (st:Nat) (gW:Option Nat)
 |loop (state:LoopState) (pending:Option Code) (fn:Nat) (n aq:Nat) (I:S E) (params:List Nat) (assign body:Code) (defers:Nat)
 |deferred (qE:Option (List h8))
structure aN where
 P:Program
 G:S ag
 a8:Nat
 hz:Nat->List E->Option E
 qh:Nat
def W(C:aN)(h:S ag)(b:Nat):Option ag:=
 b0 (Nat.blt b C.a8) (C.G.get b) (h.get (Nat.sub b C.a8))
def bm(C:aN)(h:S ag)(b:Nat)(T:Option ag):S ag:=h.set (Nat.sub b C.a8) T
def jv(C:aN)(b:Nat):Bool:=Nat.ble C.a8 b
structure s9 where
 v:E
 recovered:Bool
inductive lJ where
 |run|returning|panicking (chain:List s9)
inductive k4 where
 |v (V:Nat)
 |t (n:Nat)
 |c (F:E)
inductive ku where
 |FH (x:k4)
 |pick (c F b:k4)
 |e6 (F:k4)
 |CZ (n:Nat) (F:k4)
 |off (d:Nat) (x:k4)
 |CQ (n bd:Nat) (x i:k4)
 |CR (bd:Nat) (x i:k4)
 |FL (x:k4)
 |LY (op:BinOp) (x e:k4)
 |ext (i:Nat) (x:k4)
 |st (n:Nat) (F v:k4)
 |call (f:Nat) (args:List k4)
 |iD (b9:List (Nat×Nat)) (T:Op)
 |make (b9:List (Nat×Nat)) (T:Op)
 |fC (b9:List (Nat×Nat)) (T:Op)
structure fI where
 i:Nat
 g:Option (Nat×Bool)
 op:ku
structure xk where
 vj:List fI
 WV:List fI
 fC:Option fI
inductive d0 where
 |code (c:Code)
 |inBlock (id:Nat)
 |inLoop (body:Code)
 |inScope (body:Code)
 |Jp (av:Array Oper) (au:List (Nat×E)) (rest:List fI) (fin:List (Nat×Nat))
 |drawn (av:Array Oper) (base:Nat) (au:List (Nat×E)) (l0:List xk) (fin:List (Nat×Nat))
 |uB (av:Array Oper) (au:List (Nat×E)) (a:Nat) (rest:List fI) (fin:List (Nat×Nat))
 |Bv (av:Array Oper) (base:Nat) (au:List (Nat×E)) (a:Nat) (l0:List xk) (fin:List (Nat×Nat))
 |inRangeFunc (k:Nat)
 |endRangeFunc (k:Nat)
 |beginRound
structure g6 where
 fn:Nat
 n:Nat
 aq:Nat
 I:S E
 todo:List d0
 defers:List h8
 mode:lJ
 deferred:Bool
 roundOf:Option Nat
section av
variable(C:aN)
def jW(t:Nat):Option Nat:=match C.P.info? t with|some i=>some i.size|none=>none
def uC(t:Nat):Option E:=match C.P.info? t with|some i=>(match i.zero with|some v=>FQ v|none=>none)|none=>none
def Fl(t:Nat):Option Bool:=match C.P.underlying t with
 |some (.struct _)=>some true|some (.array _ _)=>some true|some _=>some false|none=>none
def nE:List E->Nat->List E->List E
 |cs,_,[]=>cs
 |cs,T,v::k=>nE (cs.set T v) (T+1) k
def Cc(Je:Nat->Option (Nat×Nat)):List E->List (Nat×E)->Option (List E)
 |cells,[]=>some cells
 |cells,(i,v)::rest=>match Je i with
  |none=>none
  |some (off,size)=>
   b0 (Nat.beq v.cells.length size&&Nat.ble (off+size) cells.length) (Cc Je (nE cells off v.cells) rest)<|none
def lE:Nat->List E->List E
 |0,_=>[]
 |n+1,bE=>bE++lE n bE
def Af(ax:Operand->Option E):List (Nat×Operand)->Option (List (Nat×E))
 |[]=>some []
 |(i,x)::k=>match ax x,Af ax k with|some v,some r=>some ((i,v)::r)|_,_=>none
def qJ(ax:Operand->Option E):List Operand->Option (List E)
 |[]=>some []
 |x::k=>match ax x,qJ ax k with|some v,some r=>some (v::r)|_,_=>none
def Xs(kB:List Field)(i:Nat):Option (Nat×Nat):=
 match sY kB i with
 |some f=>(match jW C f.type with|some s=>some (f.offset,s)|none=>none)
 |none=>none
def Qr:List Field->Bool
 |[]=>true
 |f::k=>(match jW C f.type with|some _=>true|none=>false)&&Qr k
def Ny(t:Nat)(kG:List (Nat×E)):Option E:=
 match uC C t with
 |none=>none
 |some bE=>match C.P.underlying t with
  |some (.struct kB)=>b0 (Qr C kB.toList) (match Cc (Xs C kB.toList) bE.cells kG with|some cs=>some (.agg cs)|none=>none) none
  |some (.array _ ep)=>(match jW C ep with
   |some s=>(match Cc (λi=>some (i*s,s)) bE.cells kG with|some cs=>some (.agg cs)|none=>none)
   |none=>none)
  |_=>none
def D0(t:Nat)(cs:List E)(off:Nat):Option E:=
 match Fl C t,jW C t with
 |some true,some s=>some (.agg ((cs.drop off).take s))
 |some false,_=>sY cs off
 |_,_=>none
def m4:List Nat->List Nat->Bool
 |[],[]=>true
 |F::x,b::e=>Nat.beq F b&&m4 x e
 |_,_=>false
def Db:List Nat->List Nat->Bool
 |_,[]=>false
 |[],_::_=>true
 |F::x,b::e=>Nat.blt F b||(Nat.beq F b&&Db x e)
def Jc(h:S ag)(b T:Nat):Bool:=match W C h b with
 |some (.cells _ n .own)=>jv C b&&Nat.blt T n
 |_=>false
def C4(h:S ag)(b T:Nat):Bool:=match W C h b with
 |some (.cells _ _ .kJ)=>false
 |some (.cells _ n _)=>Nat.blt T n
 |_=>false
def ptrEq(h:S ag)(b T dD o':Nat):Option Bool:=
 b0 (Nat.beq b dD) (some (Nat.beq T o')) (b0 (Jc C h b T&&C4 C h dD o'||Jc C h dD o'&&C4 C h b T) (some false) none)
def yV(eq:Nat->E->E->Option Bool):List Field->List E->List E->Option Bool
 |[],_,_=>some true
 |f::jN,ck,nb=>
  b0 (f.name== "_") none<|
  match D0 C f.type ck f.offset,D0 C f.type nb f.offset with
  |some F,some b=>(match eq f.type F b with
   |some true=>yV eq jN ck nb
   |some false=>some false
   |none=>none)
  |_,_=>none
def mJ(u fh:IntKind):Bool:=match u,fh with
 | .i8, .i8=>true| .i16, .i16=>true| .i32, .i32=>true| .i64, .i64=>true
 | .u8, .u8=>true| .u16, .u16=>true| .u32, .u32=>true| .u64, .u64=>true
 |_,_=>false
def Hk(F b:Bool):Bool:=match F,b with|true,true=>true|false,false=>true|_,_=>false
def uc(x e:Int):Bool:=match x,e with
 | .ofNat F, .ofNat b=>Nat.beq F b
 | .negSucc F, .negSucc b=>Nat.beq F b
 |_,_=>false
def A1(x e:Int):Bool:=match x,e with
 | .ofNat F, .ofNat b=>Nat.blt F b
 | .negSucc F, .negSucc b=>Nat.blt b F
 | .negSucc _, .ofNat _=>true
 | .ofNat _, .negSucc _=>false
def jg(h:S ag):Nat->Nat->E->E->Option Bool
 |0,_,_,_=>none
 |d+1,t,x,e=>
  match C.P.underlying t,x,e with
  |some .bool, .bool F, .bool b=>some (Hk F b)
  |some (.int _), .int u F, .int fh b=>b0 (mJ u fh) (some (uc F b)) none
  |some .string, .str F, .str b=>some (m4 F b)
  |some (.pointer _), .cN, .cN=>some true
  |some (.pointer _), .cN, .ptr _ _=>some false
  |some (.pointer _), .ptr _ _, .cN=>some false
  |some (.pointer D), .ptr b T, .ptr dD o'=>
   (
    match jW C D with
    |some s=>b0 (Nat.beq s 0) none (ptrEq C h b T dD o')
    |none=>none)
  |some (.interface _), .nilIface, .nilIface=>some true
  |some (.interface _), .nilIface, .iface _ _=>some false
  |some (.interface _), .iface _ _, .nilIface=>some false
  |some (.interface _), .iface M0 yD, .iface ty yE=>b0 (Nat.beq M0 ty) (match C.P.info? M0 with
   |some i=>b0 i.comparable (jg h d M0 yD yE) none
   |none=>none) (some false)
  |some (.slice _), .aY, .aY=>some true
  |some (.slice _), .aY, .slice .. =>some false
  |some (.slice _), .aY, .fl .. =>some false
  |some (.slice _), .slice .., .aY=>some false
  |some (.slice _), .fl .., .aY=>some false
  |some (.map _ _), .mL, .mL=>some true
  |some (.map _ _), .mL, .map _=>some false
  |some (.map _ _), .map _, .mL=>some false
  |some (.func _ _ _), .nilFunc, .nilFunc=>some true
  |some (.func _ _ _), .nilFunc, .func .. =>some false
  |some (.func _ _ _), .func .., .nilFunc=>some false
  |some (.struct kB), .agg ck, .agg nb=>b0 (C.P.stoodInHeld t) none (yV C (jg h d) kB.toList ck nb)
  |_,_,_=>none
def qu(u:IntKind)(n:Int):Int:=
 match u with
 | .i64=>(λm:Int=>b0 (decide (m<9223372036854775808)) m (m-18446744073709551616)) (n%18446744073709551616)
 | .u64=>n%18446744073709551616
 | .u8=>n%256
 |u=>u.wrap n
def p9(u:IntKind)(n:Int):Option E:=Tl n λn=>some (.int u n)
def lT(u:IntKind)(n:Int):Option E:=Tl (qu u n) λn=>some (.int u n)
def nR(b:Bool):Option E:=b0 b (some (.bool true)) (some (.bool false))
def l4(op:BinOp):IntKind->Int->Int->Option E:=
 match op with
 | .add=>λu x e=>lT u (x+e)
 | .sub=>λu x e=>lT u (x-e)
 | .mul=>λu x e=>lT u (x*e)
 | .quo=>λu x e=>b0 (uc e 0) none (lT u (x.tdiv e))
 | .rem=>λu x e=>b0 (uc e 0) none (p9 u (x.tmod e))
 | .and=>λu x e=>lT u ((BitVec.ofInt u.bits x&&& BitVec.ofInt u.bits e).toNat)
 | .or=>λu x e=>lT u ((BitVec.ofInt u.bits x|||BitVec.ofInt u.bits e).toNat)
 | .xor=>λu x e=>lT u ((BitVec.ofInt u.bits x^^^BitVec.ofInt u.bits e).toNat)
 | .andNot=>λu x e=>lT u ((BitVec.ofInt u.bits x&&& ~~~ BitVec.ofInt u.bits e).toNat)
 | .eql=>λ_ x e=>nR (uc x e)
 | .neq=>λ_ x e=>nR (!uc x e)
 | .lss=>λ_ x e=>nR (A1 x e)
 | .leq=>λ_ x e=>nR (!A1 e x)
 | .gtr=>λ_ x e=>nR (A1 e x)
 | .geq=>λ_ x e=>nR (!A1 x e)
 |_=>λ_ _ _=>none
def J3(op:BinOp)(u:IntKind)(x e:Int):Option E:=
 b0 (A1 e 0) none
 (match op with
 | .shl=>lT u (x*2^(min e.toNat u.bits))
 | .shr=>p9 u (x.fdiv (2^(min e.toNat u.bits)))
 |_=>none)
def mc(op:BinOp):Bool:=match op with| .shl| .shr=>true|_=>false
def BT(op:BinOp)(x e:List Nat):Option E:=
 match op with
 | .add=>b0 (Nat.ble (x.length+e.length) 1000000000) (some (.str (x++e)))<|none
 | .eql=>nR (m4 x e)
 | .neq=>nR (!m4 x e)
 | .lss=>nR (Db x e)
 | .leq=>nR (Db x e||m4 x e)
 | .gtr=>nR (!(Db x e||m4 x e))
 | .geq=>nR (!Db x e)
 |_=>none
def bv(op:BinOp)(x e:E):Option E:=
 match x,e with
 | .int u F, .int fh b=>b0 (mc op) (J3 op u F b) (b0 (mJ u fh) (l4 op u F b) none)
 |_,_=>none
def Hx(t:Nat)(uP:Bool)(x e:E):Bool:=match x,e with
 | .nilIface, .nilIface=>uP||(match C.P.underlying t with|some (.interface i1)=>i1.isEmpty|_=>false)
 | .agg _, .agg _=> !C.P.eqGuardType C.P.depth t
 |_,_=>true
def db(h:S ag)(op:BinOp)(t:Nat)(uP:Bool)(x e:E):Option E:=
 match x,e with
 | .int u F, .int fh b=>bv op (.int u F) (.int fh b)
 | .str F, .str b=>BT op F b
 |x,e=>b0 (Hx C t uP x e) (match op with
  | .eql=>(match jg C h 50 t x e with|some b=>nR b|none=>none)
  | .neq=>(match jg C h 50 t x e with|some b=>nR (!b)|none=>none)
  |_=>none) none
def gi(op:UnOp)(x:E):Option E:=
 match op,x with
 | .neg, .int u n=>l4 .sub u 0 n
 | .xor, .int u n=>l4 .xor u (if u.signed then -1 else u.max) n
 | .not, .bool b=>nR (!b)
 |_,_=>none
def R2(aDk dst:Nat)(x:E):Option E:=
 match C.P.underlying aDk,C.P.underlying dst,x with
 |some _,some (.int u), .int _ n=>lT u n
 |some _,some .string, .str s=>some (.str s)
 |_,_,_=>none
def n4(v:E):Option Nat:=match v with| .int _ n=>(match n with| .ofNat n=>some n|_=>none)|_=>none
def qd(T:Option E)(m d:Nat):Option Nat:=match T with
 |some v=>(match n4 v with|some n=>b0 (Nat.ble n m) (some n)<|none|none=>none)
 |none=>some d
def mR(len cap:Nat)(bO aG hy:Option E):Option (Nat×Nat×Nat):=
 match qd hy cap cap with
 |none=>none
 |some m=>match (match aG,hy with
   |none,some _=>none
   |aG,_=>qd aG m len)with
  |none=>none
  |some a=>match qd bO a 0 with
   |none=>none
   |some k=>some (k,a,m)
def Dk(ax:Operand->Option E):Option Operand->Option (Option E)
 |none=>some none
 |some x=>match ax x with|some v=>some (some v)|none=>none
def yu(h:S ag)(b:Nat):Option Nat:=match W C h b with|some (.cells _ n (.grow _))=>some n|some (.cells _ n .kJ)=>some n|_=>none
def NE(h:S ag)(t:Nat)(x:E)(bO aG hy:Option E):Option E:=
 match C.P.underlying t,x with
 |some .string, .str s=>(match hy with
  |some _=>none
  |none=>(match mR s.length s.length bO aG none with
   |some (k,a,_)=>some (.str ((s.drop k).take (a-k)))
   |none=>none))
 |some (.slice ep), .slice b T len cap=>(match mR len cap bO aG hy,jW C ep with
  |some (k,a,m),some bd=>some (.slice b (b0 (Nat.beq m k) (T)<|T+k*bd) (a-k) (m-k))
  |_,_=>none)
 |some (.slice ep), .aY=>(match mR 0 0 bO aG hy,jW C ep with
  |some _,some _=>some .aY
  |_,_=>none)
 |some (.slice ep), .fl b T len bd=>(match jW C ep,yu C h b with
  |some yw,some n=>b0 (Nat.beq bd yw&&Nat.blt 0 bd) ((match mR len ((n-T)/bd) bO aG hy with
    |some (k,a,m)=>(match hy with
     |some _=>some (.slice b (b0 (Nat.beq m k) (T)<|T+k*bd) (a-k) (m-k))
     |none=>b0 (Nat.blt k ((n-T)/bd)||Nat.beq k 0) (some (.fl b (T+k*bd) (a-k) bd))<|none)
    |none=>none))<|none
  |_,_=>none)
 |some (.array n ep), .ptr b T=>(match mR n n bO aG hy,jW C ep with
  |some (k,a,m),some bd=>some (.slice b (b0 (Nat.beq m k) (T)<|T+k*bd) (a-k) (m-k))
  |_,_=>none)
 |_,_=>none
def NB(t:Nat)(x i:E):Option E:=
 match n4 i with
 |none=>none
 |some i=>match C.P.underlying t,x with
  |some (.array n ep), .agg cs=>(match jW C ep with|some bd=>b0 (Nat.blt i n) (D0 C ep cs (i*bd))<|none|none=>none)
  |some .string, .str s=>(match sY s i with|some c=>some (.int .u8 (Int.ofNat c))|none=>none)
  |_,_=>none
def cellsOf(h:S ag)(b:Nat):Option (S E):=match W C h b with
 |some (.cells c _ _)=>some c
 |_=>none
def aU(h:S ag)(F:E):Option E:=
 match F with
 | .ptr b T=>(match cellsOf C h b with
   |some c=>c.get T
   |none=>none)
 |_=>none
def dE(h:S ag)(n:Nat)(F:E):Option E:=
 match F with
 | .ptr b T=>(match cellsOf C h b with
   |some c=>(match c.lq T n with|some k=>some (.agg k)|none=>none)
   |none=>none)
 |_=>none
def mm(h:S ag)(t:Nat)(F:E):Option E:=
 match Fl C t,jW C t with
 |some true,some s=>dE C h s F
 |some false,_=>aU C h F
 |_,_=>none
def nQ:Nat->Nat->E->Bool
 |0,_,_=>false
 |n+1,t,v=>match C.P.underlying t,v with
  |some (.interface _), .iface d x=>(match C.P.info? d with|some i=>i.comparable&&nQ n d x|none=>false)
  |some (.interface _), .nilIface=>true
  |some (.interface _),_=>false
  |some (.struct kB), .agg cs=>kB.toList.all λf=>f.name== "_"||(match D0 C f.type cs f.offset with|some p=>nQ n f.type p|none=>false)
  |some (.struct _),_=>false
  |some (.array _ _),_=>false
  |some _,_=>true
  |none,_=>false
def oH:Nat->E->E->Bool
 |0,_,_=>false
 |n+1,x,e=>match x,e with
  | .bool F, .bool b=>Hk F b
  | .int u F, .int fh b=>mJ u fh&&uc F b
  | .str F, .str b=>m4 F b
  | .ptr b T, .ptr dD o'=>Nat.beq b dD&&Nat.beq T o'
  | .cN, .cN=>true
  | .nilIface, .nilIface=>true
  | .iface t v, .iface eB f9=>Nat.beq t eB&&oH n v f9
  | .agg F, .agg b=>CX n F b
  |_,_=>false
 where
 CX (n:Nat):List E->List E->Bool
 |[],[]=>true
 |x::F,e::b=>oH n x e&&CX n F b
 |_,_=>false
def findKey(h:S ag)(t:Nat)(u:E):List (E×E×Nat)->Nat->Option (Option (Nat×E))
 |[],_=>some none
 |(fh,v,_)::b8,i=>match jg C h 20 t u fh with
  |some true=>some (some (i,v))
  |some false=>findKey h t u b8 (i+1)
  |none=>none
def qg(h:S ag)(t:Nat)(u:E):List (E×E)->Option (Option E)
 |[]=>some none
 |(fh,v)::b8=>match qg h t u b8,jg C h 20 t u fh with
  |some r,some false=>some r
  |some none,some true=>some (some v)
  |_,_=>none
def IR(r:Option (Option E)):Option (Option (Nat×E)):=match r with
 |some (some v)=>some (some (0,v))
 |some none=>some none
 |none=>none
def ND(h:S ag)(t:Nat)(m u:E)(ok:Bool):Option E:=
 match C.P.underlying t with
 |some (.map kp B9)=>
  (match (match m with
   | .mL=>b0 (nQ C 20 kp u) (some none) none
   | .map r=>(match W C h r with|some (.map b8 _)=>b0 (nQ C 20 kp u) (findKey C h kp u b8 0) none|some (.look b8)=>b0 (nQ C 20 kp u) (IR (qg C h kp u b8)) none|_=>none)
   |_=>none)with
  |none=>none
  |some none=>(match uC C B9 with|some bE=>some (b0 (ok) (.tuple [bE, .bool false])<|bE)|none=>none)
  |some (some (_,v))=>some (b0 (ok) (.tuple [v, .bool true])<|v))
 |_=>none
def NC(h:S ag)(t:Nat)(x:E):Option E:=
 match C.P.underlying t,x with
 |some .string, .str s=>p9 .i64 (Int.ofNat s.length)
 |some (.array n _),_=>some (.int .i64 (Int.ofNat n))
 |some (.pointer ct),_=>(match C.P.underlying ct with|some (.array n _)=>some (.int .i64 (Int.ofNat n))|_=>none)
 |some (.slice _), .slice _ _ n _=>p9 .i64 (Int.ofNat n)
 |some (.slice _), .fl _ _ n _=>p9 .i64 (Int.ofNat n)
 |some (.slice _), .aY=>some (.int .i64 0)
 |some (.map _ _), .mL=>some (.int .i64 0)
 |some (.map _ _), .map r=>(match W C h r with|some (.map b8 _)=>p9 .i64 (Int.ofNat b8.length)|_=>none)
 |_,_=>none
def Nz(t:Nat)(x:E):Option E:=
 match C.P.underlying t,x with
 |some (.slice _), .slice _ _ _ n=>p9 .i64 (Int.ofNat n)
 |some (.slice _), .aY=>some (.int .i64 0)
 |_,_=>none
def pJ(hy:Bool):E->List E->Option E
 |v,[]=>some v
 | .int u x, .int _ e::k=>pJ hy (.int u (b0 (hy) ((b0 (A1 x e) (e)<|x))<|(b0 (A1 e x) (e)<|x))) k
 |_,_=>none
def y6:List E->Option (List Nat)
 |[]=>some []
 | .int .u8 (.ofNat n)::k=>(match y6 k with|some r=>some (n%256::r)|none=>none)
 |_=>none
def nT(h:S ag)(b T n:Nat):Option (List E):=
 match cellsOf C h b with
 |some c=>c.lq T n
 |none=>b0 (Nat.beq n 0) (some []) none
def Ha(h:S ag)(x:E):Option E:=
 match x with
 | .aY=>some (.str [])
 | .slice b T len _=>(match nT C h b T len with|some k=>(match y6 k with|some s=>some (.str s)|none=>none)|none=>none)
 | .fl b T len _=>(match nT C h b T len with|some k=>(match y6 k with|some s=>some (.str s)|none=>none)|none=>none)
 |_=>none
def V0(t:Nat)(kG:Array (Nat×Operand))(_:S ag)(ax:Operand->Option E):Option E:=
 match Af ax kG.toList with|some dm=>Ny C t dm|none=>none
def rP(T:Operand):Bool:=match T with| .const _=>true|_=>false
def P5(op:BinOp)(t:Nat)(x e:Operand)(h:S ag)(ax:Operand->Option E):Option E:=
 match ax x,ax e with|some F,some b=>db C h op t (rP x||rP e) F b|_,_=>none
def V8(op:UnOp)(x:Operand)(_:S ag)(ax:Operand->Option E):Option E:=
 match ax x with|some F=>gi op F|none=>none
def Mc(s d:Nat)(x:Operand)(h:S ag)(ax:Operand->Option E):Option E:=
 match ax x with
 |some F=>(match R2 C s d F with
  |some v=>some v
  |none=>(match C.P.underlying s,C.P.underlying d with
   |some (.slice D),some .string=>(match C.P.underlying D with|some (.int .u8)=>Ha C h F|_=>none)
   |_,_=>none))
 |none=>none
def Me(t:Nat)(x:Operand)(_:S ag)(ax:Operand->Option E):Option E:=
 match C.P.underlying t,ax x with
 |some (.interface _),_=>none
 |some _,some v=>some (.iface t v)
 |_,_=>none
def V4(fn:Fn)(first f1:Array Operand)(_:S ag)(ax:Operand->Option E):Option E:=
 match qJ ax first.toList,qJ ax f1.toList with
 |some F,some b=>(match fn with| .func f=>some (.func (.func f) F b)|_=>none)
 |_,_=>none
def V7(t:Nat)(x:Operand)(bO aG hy:Option Operand)(h:S ag)(ax:Operand->Option E):Option E:=
 match ax x,Dk ax bO,Dk ax aG,Dk ax hy with
 |some v,some k,some a,some m=>NE C h t v k a m
 |_,_,_,_=>none
def Md(t:Nat)(x:Operand)(f:Nat)(_:S ag)(ax:Operand->Option E):Option E:=
 match C.P.underlying t,ax x with
 |some (.struct kB),some (.agg cs)=>(match sY kB.toList f with
  |some tA=>D0 C tA.type cs tA.offset
  |none=>none)
 |_,_=>none
def V5(t:Nat)(x i:Operand)(_:S ag)(ax:Operand->Option E):Option E:=
 match ax x,ax i with|some F,some b=>NB C t F b|_,_=>none
def V6(t:Nat)(m u:Operand)(ok:Bool)(h:S ag)(ax:Operand->Option E):Option E:=
 match ax m,ax u with|some F,some b=>ND C h t F b ok|_,_=>none
def Mb(x:Operand)(vM:Nat)(ok:Bool)(_:S ag)(ax:Operand->Option E):Option E:=
 match C.P.underlying vM,ax x with
 |some (.interface _),_=>none
 |some _,some .nilIface=>b0 (ok) ((match uC C vM with|some bE=>some (.tuple [bE, .bool false])|none=>none))<|none
 |some _,some (.iface t v)=>b0 (Nat.beq t vM) (some (b0 (ok) (.tuple [v, .bool true])<|v))<|b0 (ok) ((match uC C vM with|some bE=>some (.tuple [bE, .bool false])|none=>none))<|none
 |_,_=>none
def V1(b:Builtin)(args:Array Operand)(df:Array TypeId)(h:S ag)(ax:Operand->Option E):Option E:=
 match b,qJ ax args.toList with
 | .len,some [x]=>(match df.toList with|t::_=>NC C h t x|_=>none)
 | .cap,some [x]=>(match df.toList with|t::_=>Nz C t x|_=>none)
 | .max,some (x::k)=>pJ true x k
 | .min,some (x::k)=>pJ false x k
 |_,_=>none
def V2(c:Call)(h:S ag)(ax:Operand->Option E):Option E:=
 match c with
 |⟨.builtin b,args,df⟩=>V1 C b args df h ax
 |_=>none
def ahz:List Nat->Option Nat
 |[]=>none
 |F::k=>match k with|[]=>some F|_=>ahz k
def V3(_:Operand)(_:S ag)(_:Operand->Option E):Option E:=(λ_:aN=>none) C
def o0(T:Op):aN->S ag->(Operand->Option E)->Option E:=
 match T with
 | .build t kG=>λC=>V0 C t kG
 | .binOp op t x e _=>λC=>P5 C op t x e
 | .unOp op _ x=>λ_=>V8 op x
 | .convert s d x=>λC=>Mc C s d x
 | .makeInterface t x=>λC=>Me C t x
 | .makeFunc fn first f1=>λ_=>V4 fn first f1
 | .slice t x bO aG hy=>λC=>V7 C t x bO aG hy
 | .field t x f=>λC=>Md C t x f
 | .index t x i=>λC=>V5 C t x i
 | .lookup t m u ok=>λC=>V6 C t m u ok
 | .typeAssert x _ vM ok=>λC=>Mb C x vM ok
 | .entry eN=>λC=>V3 C eN
 | .call c=>λC=>V2 C c
 |_=>λ_ _ _=>none
def Ds(c:ku):Bool:=match c with
 | .e6 _| .CZ _ _=>true
 | .iD _ T=>(match T with
   | .lookup .. | .convert .. | .slice .. | .call _| .binOp .. | .entry _=>true
   |_=>false)
 |_=>false
def FD(t:Nat)(_:Operand->Option E)(b:Nat):Option (E×ag):=
 match uC C t with|some bE=>some (.ptr b 0, .cells (S.ofList bE.cells 0 .nil) bE.cells.length .own)|none=>none
def Mm(x:Operand)(ax:Operand->Option E)(b:Nat):Option (E×ag):=
 match ax x with|some v=>some (.ptr b 0, .cells (S.ofList v.cells 0 .nil) v.cells.length .own)|none=>none
def Mn(t len:Nat)(kG:Array (Nat×Operand))(ax:Operand->Option E)(b:Nat):Option (E×ag):=
 match C.P.underlying t,Af ax kG.toList with
 |some (.slice ep),some dm=>(match jW C ep,uC C ep with
  |some s,some bE=>b0 (Nat.ble (len*s) 16777216&&Nat.beq bE.cells.length s) ((match Cc (λi=>some (i*s,s)) (lE len bE.cells) dm with
    |some cs=>some (.slice b 0 len len, .cells (S.ofList cs 0 .nil) cs.length .own)
    |none=>none))<|none
  |_,_=>none)
 |_,_=>none
def ri(T:Op):aN->(Operand->Option E)->Nat->Option (E×ag):=
 match T with
 | .alloc t=>λC=>FD C t
 | .box _ x=>λ_=>Mm x
 | .buildSlice t len kG=>λC=>Mn C t len kG
 | .makeMap _ none=>λ_ _ b=>some (.map b, .map [] 0)
 |_=>λ_ _ _=>none
def nw:List Nat->S ag->S ag
 |[],a=>a
 |b::k,a=>nw k (bm C a b none)
def d7:S E->Nat->List E->S E
 |c,_,[]=>c
 |c,T,v::k=>j6 (c.set T (some v)) λc=>d7 c (T+1) k
def po(v:E):Bool:=match v with| .agg _=>false| .tuple _=>false|_=>true
def iF:List E->Bool
 |[]=>true
 |v::k=>po v&&iF k
def sm(h:S ag)(b T:Nat)(bk:List E):Option (S ag):=
 match W C h b with
 |some (.cells c n st)=>b0 (Nat.ble (T+bk.length) n&&jv C b&&iF bk) ((match st with
   | .own=>j6 (d7 c T bk) λc=>j6 (bm C h b (some (.cells c n .own))) λh=>some h
   | .marked=>j6 (d7 c T bk) λc=>j6 (bm C h b (some (.cells c n .marked))) λh=>some h
   | .grow eS=>j6 (d7 c T bk) λc=>j6 (bm C (nw C eS h) b (some (.cells c n (.grow [])))) λh=>some h
   |_=>none))<|none
 |_=>none
def lZ(h:S ag)(bd:Nat)(x:E):Option (Nat×List E):=
 match x with
 | .aY=>some (0,[])
 | .slice b T len _=>(match nT C h b T (len*bd)with|some k=>some (len,k)|none=>none)
 | .fl b T len _=>(match nT C h b T (len*bd)with|some k=>some (len,k)|none=>none)
 | .str s=>b0 (Nat.beq bd 1) (some (s.length,s.map λn=>E.int .u8 (Int.ofNat n))) none
 |_=>none
inductive ed where
 |val (v:E)
 |fH (v:E) (h:S ag) (j:Nat)
 |enter (f:Nat) (args:List E)
 |known (f:Nat) (args:List E) (v:E)
 |round (k:Nat) (args:List E)
 |defer (d:h8)
 |recover
 |panic (v:E)
 |fork (k:List (E×S ag))
def n5(C:aN)(h:S ag)(j:Nat)(T:ag)(u:Nat->E):Option ed:=
 rr j λj=>j6 (bm C h j (some T)) λh=>some (.fH (u j) h (j+1))
def uY(h:S ag)(j n bd:Nat)(k:List E):Option ed:=
 b0 (Nat.ble n 1048576) (n5 C h j (.cells (S.ofList k 0 .nil) k.length (.grow [])) λb=> .fl b 0 n bd)<|none
def J6(h:S ag)(j:Nat)(b T len bd n:Nat)(k:List E):Option ed:=
 match W C h b with
 |some (
   .cells c size (.grow eS))=>b0 (jv C b)
  (b0 (
   Nat.ble (T+(len+n)*bd) size)
   (match sm C h b (T+len*bd) k with|some R=>some (.fH (.fl b T (len+n) bd) R j)|none=>none)
   (b0 (Nat.ble (len+n) 1048576&&iF k) (b0 (Nat.beq (T+len*bd) size&&Nat.beq T 0)
    (j6 (d7 c size k) λfX=>n5 C (bm C h b (some (.cells c size .kJ))) j (.cells fX (size+k.length) (.grow (b::eS))) λdD=> .fl dD 0 (len+n) bd)
    (match c.lq T (len*bd)with
    |some ft=>n5 C (bm C (nw C eS h) b none) j (.cells (S.ofList (ft++k) 0 .nil) (ft++k).length (.grow [])) λdD=> .fl dD 0 (len+n) bd
    |none=>none)) none)) none
 |_=>none
def yZ(h:S ag)(j:Nat)(bd n:Nat)(k:List E)(s:E):Option ed:=
 match s with
 | .aY=>uY C h j n bd k
 | .slice b T len cap=>b0 (Nat.ble (len+n) cap) ((match sm C h b (T+len*bd) k with|some R=>some (.fH (.slice b T (len+n) cap) R j)|none=>none))<|(match nT C h b T (len*bd)with
    |some ft=>uY C h j (len+n) bd (ft++k)
    |none=>none)
 | .fl b T len yw=>b0 (Nat.beq yw bd) (J6 C h j b T len bd n k)<|none
 |_=>none
def Hc(h:S ag)(bd:Nat)(s:E):Option ed:=
 match s with
 | .aY=>some (.val .aY)
 | .slice b T len cap=>b0 (Nat.ble len cap) (some (.val (.slice b T len cap))) none
 | .fl b T len yw=>b0 (Nat.beq yw bd) (match yu C h b with
   |some n=>b0 (Nat.ble (T+len*bd) n) (some (.val (.fl b T len yw))) none
   |none=>none) none
 |_=>none
def NA(h:S ag)(j:Nat)(st:Nat)(s:E)(n:Nat):Option ed:=
 match C.P.underlying st with
 |some (.slice ep)=>(match C.P.info? ep,uC C ep with
  |some i,some bE=>b0 (Nat.blt 0 i.size&&Nat.ble i.bytes 65536&&Nat.beq bE.cells.length i.size&&Nat.ble n 1048576) (b0 (Nat.beq n 0) (Hc C h i.size s)<|yZ C h j i.size n (lE n bE.cells) s)<|none
  |_,_=>none)
 |_=>none
def akz(i:TypeInfo):Bool:=match i.zero with|some bE=>Nat.beq bE.cells.size i.size|none=>false
def G8(h:S ag)(j:Nat)(st:Nat)(s x:E):Option ed:=
 match C.P.underlying st with
 |some (.slice ep)=>(match C.P.info? ep with
  |some i=>(match lZ C h i.size x with
   |some (n,k)=>b0 (Nat.blt 0 i.size&&Nat.ble i.bytes 65536&&akz i) ((b0 (Nat.beq n 0) (Hc C h i.size s)<|yZ C h j i.size n k s))<|none
   |none=>none)
  |none=>none)
 |_=>none
def aFD(h:S ag)(j:Nat)(b T m:Nat)(k:List E):Option ed:=
 b0 (Nat.beq m 0) (some (.val (.int .i64 0)))<|
 (match sm C h b T k with|some R=>some (.fH (.int .i64 (Int.ofNat m)) R j)|none=>none)
def setObj(h:S ag)(j:Nat)(r:Nat)(T:ag)(v:E):Option ed:=
 b0 (jv C r) (j6 (bm C h r (some T)) λh=>some (.fH v h j))<|none
def J1(h:S ag)(j:Nat)(t:Nat)(m u v:E):Option ed:=
 match C.P.underlying t,m with
 |some (.map kp _), .map r=>(match W C h r with
  |some (.map b8 ff)=>b0 (nQ C 20 kp u) (match findKey C h kp u b8 0 with
   |some (some (i,_))=>(match sY b8 i with
    |some (fh,_,born)=>b0 (oH 20 fh u) (setObj C h j r (.map (b8.set i (u,v,born)) ff) undef) none
    |none=>none)
   |some none=>setObj C h j r (.map (b8++[(u,v,ff)]) (ff+1)) undef
   |none=>none) none
  |_=>none)
 |_,_=>none
def QB(x e:E):Bool:=match x,e with
    | .bool F, .bool b=>Hk F b
    | .int u F, .int fh b=>mJ u fh&&uc F b
    | .str F, .str b=>m4 F b
    | .aY, .aY=>true
    | .cN, .cN=>true
    | .nilIface, .nilIface=>true
    |_,_=>false
def FW:List E->List E->Bool
 |[],[]=>true
 |F::x,b::e=>QB F b&&FW x e
 |_,_=>false
def known(f:Nat)(args:List E):List (Nat×List E×E)->Option E
 |[]=>none
 |(g,cB,v)::k=>b0 (Nat.beq f g&&FW args cB) (some v)<|known f args k
def tp(f:Nat)(args:List E):Option ed:=
 match C.hz f args with
 |some v=>some (.known f args v)
 |none=>(match C.P.funcs[f]? with
  |some fn=>(match fn.body with
   |some _=>some (.enter f args)
   |none=>none)
  |none=>none)
def BS(fn:Fn)(f1 args:List E):Option ed:=
 match fn with
 | .func f=>tp C f (args++f1)
 | .yield k=>some (.round k args)
 |_=>none
def G9(h:S ag)(t:Nat)(v:E)(name:String)(args:List E):Option ed:=
 match C.P.info? t with
 |some i=>(match i.methods.find? (·.name==name)with
  |some m=>b0 m.path.isEmpty (match m.func,C.P.underlying t with
   |some (f,true),some (.pointer _)=>tp C f (v::args)
   |some (f,false),some (.pointer D)=>(match mm C h D v with|some x=>tp C f (x::args)|none=>none)
   |some (f,false),some _=>tp C f (v::args)
   |_,_=>none) none
  |none=>none)
 |none=>none
def Q0(h:S ag)(j s:Nat)(F v:E):Option ed:=
 match F with
 | .ptr b T=>b0 (Nat.beq v.cells.length s&&Nat.blt 0 s) ((match sm C h b T v.cells with|some R=>some (.fH undef R j)|none=>none))<|none
 |_=>none
def HV(t:Nat)(m u x:Operand)(h:S ag)(j:Nat)(ax:Operand->Option E):Option ed:=
 match ax m,ax u,ax x with
 |some m,some u,some v=>J1 C h j t m u v
 |_,_,_=>none
def K4(_:Nat)(_ _:Operand)(_:S ag)(_:Nat)(_:Operand->Option E):Option ed:=(λ_:aN=>none) C
def KW(_ _ _:Operand)(_:S ag)(_:Nat)(_:Operand->Option E):Option ed:=(λ_:aN=>none) C
def K3(t:Nat)(k c:Operand)(h:S ag)(j:Nat)(ax:Operand->Option E):Option ed:=
 match C.P.underlying t,ax k,ax c with
 |some (.slice ep),some k,some c=>(match n4 k,n4 c,C.P.info? ep,uC C ep with
  |some k,some c,some i,some bE=>b0 (Nat.ble k c&&Nat.ble c 1048576&&Nat.ble i.bytes 65536&&Nat.blt 0 i.size&&Nat.beq bE.cells.length i.size) (n5 C h j (.cells (S.ofList (lE c bE.cells) 0 .nil) (c*i.size) .own) λb=> .slice b 0 k c)<|none
  |_,_,_,_=>none)
 |_,_,_=>none
def K2(t:Nat)(r:Operand)(h:S ag)(j:Nat)(ax:Operand->Option E):Option ed:=
 match C.P.underlying t,ax r with
 |some (.map _ _),some (.int _ _)=>n5 C h j (.map [] 0) λb=> .map b
 |_,_=>none
def K7(s d:Nat)(x:Operand)(h:S ag)(j:Nat)(ax:Operand->Option E):Option ed:=
 match C.P.underlying s,C.P.underlying d,ax x with
 |some .string,some (.slice D),some (.str k)=>(match C.P.underlying D with
  |some (.int .u8)=>uY C h j k.length 1 (k.map λn=>E.int .u8 (Int.ofNat n))
  |_=>none)
 |some (.slice _),some (.slice D),some (.slice b T len cap)=>(match C.P.underlying D with
  |some (.int .u8)=>b0 (Nat.beq s d&&jv C b) (match W C h b with
   |some (.cells c n .own)=>j6 (bm C h b (some (.cells c n .marked))) λh=>some (.fH (.slice b T len cap) h j)
   |some (.cells _ _ .marked)=>some (.val (.slice b T len cap))
   |_=>none) none
  |_=>none)
 |_,_,_=>none
def K5(t:Nat)(x:Operand)(h:S ag)(j:Nat)(ax:Operand->Option E):Option ed:=
 match C.P.underlying t,ax x with
 |some .string,some (.str s)=>n5 C h j (.pu s 0) λb=> .ptr b 0
 |some (.map _ _),some .mL=>n5 C h j (.A8 none 0 [] 0) λb=> .ptr b 0
 |some (.map _ _),some (.map r)=>(match W C h r with
  |some (.map _ ff)=>n5 C h j (.A8 (some r) ff [] ff) λb=> .ptr b 0
  |_=>none)
 |_,_=>none
def rS(n:Nat):List Nat->Bool
 |[]=>false
 |F::k=>Nat.beq n F||rS n k
def xK(eN:Operand)(A2:Bool)(h:S ag)(j:Nat)(ax:Operand->Option E):Option ed:=
 match ax eN with
 |some (.ptr r 0)=>b0 (jv C r) (match W C h r,A2 with
  |some (.pu s pos),true=>b0 (Nat.blt pos s.length) (match sY s pos with
    |some c=>b0 (Nat.blt c 128) (setObj C h j r (.pu s (pos+1)) (.tuple [.bool true, .int .i64 (Int.ofNat pos), .int .i32 (Int.ofNat c)])) none
    |none=>none)
   (some (.val (.tuple [.bool false])))
  |some (.A8 none _ _ _),false=>some (.val (.tuple [.bool false]))
  |_,_=>none) none
 |_=>none
def T8(x:Operand)(_:S ag)(_:Nat)(ax:Operand->Option E):Option ed:=
 match ax x with|some (.iface t v)=>some (.panic (.iface t v))|_=>none
def TO(c:Call)(_:S ag)(_:Nat)(ax:Operand->Option E):Option ed:=
 match c with
 |⟨.value f,args,_⟩=>(match ax f,qJ ax args.toList with
  |some (.func fn first f1),some cB=>some (.defer ⟨.fn fn f1,first++cB⟩)
  |_,_=>none)
 |_=>none
def KQ(b:Builtin)(args:Array Operand)(df:Array TypeId)(h:S ag)(j:Nat)(ax:Operand->Option E):Option ed:=
 match b,qJ ax args.toList with
 | .append,some [s,x]=>(match df.toList with
   |st::i7::_=>(match C.P.underlying i7 with
    |some (.int _)=>(match n4 x with|some n=>NA C h j st s n|none=>none)
    |some (.slice _)=>G8 C h j st s x
    |some .string=>G8 C h j st s x
    |_=>none)
   |_=>none)
 | .recover,some []=>some .recover
 |_,_=>none
def Ew(c:Call)(h:S ag)(j:Nat)(ax:Operand->Option E):Option ed:=
 match c with
 |⟨.value f,args,_⟩=>(match ax f,qJ ax args.toList with
  |some (.func fn first f1),some cB=>BS C fn f1 (first++cB)
  |_,_=>none)
 |⟨.builtin b,args,df⟩=>KQ C b args df h j ax
 |⟨.invoke r name,args,_⟩=>(match ax r,qJ ax args.toList with
  |some (.iface t v),some cB=>G9 C h t v name cB
  |_,_=>none)
def oq(T:Op):aN->S ag->Nat->(Operand->Option E)->Option ed:=
 match T with
 | .mapUpdate t m u x=>λC=>HV C t m u x
 | .insert t m u x=>λC=>HV C t m u x
 | .mapEntry t m u=>λC=>K4 C t m u
 | .entryStore _ m s x=>λC=>KW C m s x
 | .makeSlice t k c=>λC=>K3 C t k c
 | .makeMap t (some r)=>λC=>K2 C t r
 | .convert s d x=>λC=>K7 C s d x
 | .range t x=>λC=>K5 C t x
 | .next eN A2=>λC=>xK C eN A2
 | .panic x=>λ_=>T8 x
 | .defer c=>λ_=>TO c
 | .call c=>λC=>Ew C c
 |_=>λ_ _ _ _=>none
end av
def lP(x:k4):List (Nat×E)->S E->Option E:=
 match x with
 | .v V=>λau _=>ev au V
 | .t n=>λ_ I=>I.get n
 | .c F=>λ_ _=>some F
def Ca(au:List (Nat×E))(I:S E):List k4->Option (List E)
 |[]=>some []
 |x::k=>match lP x au I with
  |none=>none
  |some v=>match Ca au I k with
   |none=>none
   |some r=>some (v::r)
def jM(b9:List (Nat×Nat))(au:List (Nat×E))(I:S E)(T:Operand):Option E:=match T with
 | .tmp t=>(match ev b9 t with|some V=>ev au V|none=>I.get t)
 | .const v=>FQ v
 | .global g=>some (.ptr g 0)
 | .func f=>some (.func (.func f) [] [])
def hW(d:Nat)(v:E):Option E:=match v with| .ptr b T=>some (.ptr b (T+d))|_=>none
def Ri(c:E)(F b:k4)(au:List (Nat×E))(I:S E):Option E:=match c with
 | .bool c=>b0 c (lP F au I) (lP b au I)
 |_=>none
def Nb(n bd:Nat)(x:E)(i:Nat):Option E:=match x with| .ptr b T=>b0 (Nat.blt i n) (some (.ptr b (T+i*bd))) none|_=>none
def DD(bd:Nat)(x:E)(i:Nat):Option E:=match x with
 | .slice b T len _=>b0 (Nat.blt i len) (some (.ptr b (T+i*bd))) none
 | .fl b T len _=>b0 (Nat.blt i len) (some (.ptr b (T+i*bd))) none
 |_=>none
def rf(v:E):Option E:=match v with
 | .ptr b T=>some (.ptr b T)
 | .func fn F b=>(match fn with| .func f=>some (.func (.func f) F b)| .yield f=>some (.func (.yield f) F b)|_=>none)
 | .iface t v=>some (.iface t v)
 |_=>none
def oh(i:Nat)(v:E):Option E:=match v with| .tuple bk=>sY bk i|_=>none
def hd(T:ku):aN->S ag->List (Nat×E)->S E->Option E:=
 match T with
 | .FH x=>λ_ _=>lP x
 | .pick c F b=>λ_ _ au I=>(match lP c au I with|some c=>Ri c F b au I|none=>none)
 | .e6 F=>λC h au I=>(match lP F au I with|some F=>aU C h F|none=>none)
 | .CZ n F=>λC h au I=>(match lP F au I with|some F=>dE C h n F|none=>none)
 | .off d x=>λ_ _ au I=>(match lP x au I with|some F=>hW d F|none=>none)
 | .CQ n bd x i=>λ_ _ au I=>(match lP x au I with|some F=>(match lP i au I with|some i=>(match n4 i with|some i=>Nb n bd F i|none=>none)|none=>none)|none=>none)
 | .CR bd x i=>λ_ _ au I=>(match lP x au I with|some F=>(match lP i au I with|some i=>(match n4 i with|some i=>DD bd F i|none=>none)|none=>none)|none=>none)
 | .FL x=>λ_ _ au I=>(match lP x au I with|some F=>rf F|none=>none)
 | .LY op x e=>λ_ _ au I=>(match lP x au I with|some F=>(match lP e au I with|some b=>bv op F b|none=>none)|none=>none)
 | .ext i x=>λ_ _ au I=>(match lP x au I with|some F=>oh i F|none=>none)
 | .iD b9 T=>λC h au I=>o0 T C h (jM b9 au I)
 |_=>λ_ _ _ _=>none
def o7(T:ku):aN->Nat->List (Nat×E)->S E->Option (E×ag):=
 match T with
 | .make b9 T=>λC b au I=>ri T C (jM b9 au I) b
 |_=>λ_ _ _ _=>none
def io(T:ku):aN->S ag->Nat->List (Nat×E)->S E->Option ed:=
 match T with
 | .st n F v=>λC h j au I=>(match lP F au I with|some F=>(match lP v au I with|some v=>Q0 C h j n F v|none=>none)|none=>none)
 | .call f args=>λC _ _ au I=>(match Ca au I args with|some cB=>tp C f cB|none=>none)
 | .fC b9 T=>λC h j au I=>oq T C h j (jM b9 au I)
 |_=>λ_ _ _ _ _=>none
inductive akR where|iD|make|fC
def nx(T:ku):akR:=match T with
 | .st .. => .fC| .call .. => .fC| .fC .. => .fC
 | .make .. => .make
 |_=> .iD
def Qa(T:ku)(C:aN)(h:S ag)(j:Nat)(au:List (Nat×E))(I:S E):Option ed:=
 rr j λj=>(match o7 T C j au I with|some (v,cT)=>j6 (bm C h j (some cT)) λh=>some (.fH v h (j+1))|none=>none)
def fR(m i:Nat):Bool:=Nat.beq (Nat.mod (Nat.div m (Nat.pow 2 i)) 2) 1
def nG(b9:List (Nat×Nat))(T:Operand):Option k4:=match T with
 | .tmp t=>(match ev b9 t with|some V=>some (.v V)|none=>some (.t t))
 | .const v=>(match FQ v with|some F=>some (.c F)|none=>none)
 | .global g=>some (.c (.ptr g 0))
 | .func f=>some (.c (.func (.func f) [] []))
def Jx(b9:List (Nat×Nat)):List Operand->Option (List k4)
 |[]=>some []
 |x::k=>match nG b9 x,Jx b9 k with|some v,some r=>some (v::r)|_,_=>none
def axY(C:aN)(s d:Nat):Bool:=match C.P.underlying s,C.P.underlying d with
 |some .string,some (.slice _)=>true
 |some (.slice _),some (.slice _)=>true
 |_,_=>false
def axV(C:aN)(t:Nat):Bool:=match C.P.underlying t with|some (.int _)=>true|_=>false
def mq(C:aN)(b9:List (Nat×Nat))(T:Op):Option ku:=
 match T with
 | .move x| .assign x=>(match nG b9 x with|some x=>some (.FH x)|none=>none)
 | .pick c F b=>(match nG b9 c,nG b9 F,nG b9 b with|some c,some F,some b=>some (.pick c F b)|_,_,_=>none)
 | .load t F=>(match nG b9 F,Fl C t,jW C t with
   |some F,some true,some s=>some (.CZ s F)
   |some F,some false,_=>some (.e6 F)
   |_,_,_=>none)
 | .fieldAddr s x f=>(match C.P.underlying s,nG b9 x with
   |some (.struct kB),some x=>(match sY kB.toList f with
    |some tA=>(match jW C tA.type with|some bE=>b0 (Nat.beq bE 0) (none)<|some (.off tA.offset x)|none=>none)
    |none=>none)
   |_,_=>none)
 | .indexAddr t x i=>(match C.P.underlying t,nG b9 x,nG b9 i with
   |some (.array n ep),some x,some i=>(match jW C ep with|some bd=>some (.CQ n bd x i)|none=>none)
   |some (.slice ep),some x,some i=>(match jW C ep with|some bd=>some (.CR bd x i)|none=>none)
   |_,_,_=>none)
 | .nilCheck x=>(match nG b9 x with|some x=>some (.FL x)|none=>none)
 | .binOp op t x e JE=>b0 (axV C t) ((match nG b9 x,nG b9 e with|some x,some e=>some (.LY op x e)|_,_=>none))<|some (.iD b9 (.binOp op t x e JE))
 | .extract x i=>(match nG b9 x with|some x=>some (.ext i x)|none=>none)
 | .store t F x=>(match nG b9 F,nG b9 x,jW C t with|some F,some x,some s=>some (.st s F x)|_,_,_=>none)
 | .call ⟨.value (.func f),args,df⟩=>(match Jx b9 args.toList with|some cB=>some (.call f cB)|none=>none)
 | .call ⟨.builtin b,args,df⟩=>(match b with
   | .len| .cap| .max| .min=>some (.iD b9 (.call ⟨.builtin b,args,df⟩))
   |_=>some (.fC b9 (.call ⟨.builtin b,args,df⟩)))
 | .call c=>some (.fC b9 (.call c))
 | .convert s d x=>b0 (axY C s d) (some (.fC b9 (.convert s d x)))<|some (.iD b9 (.convert s d x))
 | .alloc t=>some (.make b9 (.alloc t))
 | .box t x=>some (.make b9 (.box t x))
 | .buildSlice t k p=>some (.make b9 (.buildSlice t k p))
 | .makeMap t none=>some (.make b9 (.makeMap t none))
 | .makeMap t (some r)=>some (.fC b9 (.makeMap t (some r)))
 | .mapUpdate t m u x=>some (.fC b9 (.mapUpdate t m u x))
 | .insert t m u x=>some (.fC b9 (.insert t m u x))
 | .mapEntry t m u=>some (.fC b9 (.mapEntry t m u))
 | .entryStore t m s x=>some (.fC b9 (.entryStore t m s x))
 | .makeSlice t k c=>some (.fC b9 (.makeSlice t k c))
 | .range t x=>some (.fC b9 (.range t x))
 | .next i s=>some (.fC b9 (.next i s))
 | .panic x=>some (.fC b9 (.panic x))
 | .defer c=>some (.fC b9 (.defer c))
 |T=>some (.iD b9 T)
def xx(V:Nat):List (Nat×Nat)->Option Nat
 |[]=>none
 |(t,i)::k=>b0 (Nat.beq i V) (some t)<|xx V k
def Ke(wr:List (Nat×Nat))(g:Option (Nat×Bool)):Option (Option (Nat×Bool)):=match g with
 |none=>some none
 |some (V,mg)=>(match xx V wr with
  |some t=>(match ev wr t with
   |some qb=>b0 (Nat.beq V qb) (some (some (V,mg)))<|none
   |none=>none)
  |none=>none)
def yX(T:Oper)(i:Nat)(wr:List (Nat×Nat)):List (Nat×Nat):=match T.dst with|some d=>(d,i)::wr|none=>wr
def N2(n:Nat)(T:Oper):Bool:=match T.dst with|some d=>Nat.blt d n|none=>true
def Be(C:aN)(aq:Nat)(b9:List (Nat×Nat))(T:Operand):Bool:=match T with
 | .tmp t=>(match ev b9 t with|some _=>true|none=>fR aq t)
 | .global g=>Nat.blt g C.qh
 |_=>true
def FS(C:aN)(aq:Nat)(b9:List (Nat×Nat)):List Operand->Bool
 |[]=>true
 |x::k=>Be C aq b9 x&&FS C aq b9 k
def tt(C:aN)(n aq:Nat):List Oper->Nat->List (Nat×Nat)->Option (List fI)
 |[],_,_=>some []
 |T::k,i,wr=>rr i λi=>match Ke wr T.guard,mq C wr T.op with
  |some g,some op=>b0 (N2 n T&&FS C aq wr T.op.operands.toList) (match tt C n aq k (i+1) (yX T i wr)with|some r=>some (⟨i,g,op⟩::r)|none=>none) none
  |_,_=>none
def lQ(aq:Nat):List Oper->Nat->List (Nat×Nat)
 |[],_=>[]
 |T::k,i=>match T.dst with
  |some d=>b0 (fR aq d) ((i,d)::lQ aq k (i+1))<|lQ aq k (i+1)
  |none=>lQ aq k (i+1)
def dstsOf:List Oper->List Nat
 |[]=>[]
 |T::k=>match T.dst with|some d=>d::dstsOf k|none=>dstsOf k
structure RB where
 rest:List fI
 fin:List (Nat×Nat)
def Mr(C:aN)(n:Nat)(av:Array Oper)(aq:Nat):Option RB:=
 match tt C n aq av.toList 0 []with
 |some cs=>some ⟨cs,lQ aq av.toList 0⟩
 |none=>none
def I9(T:Operand)(m:Nat):Nat:=match T with| .tmp t=>Nat.lor m (Nat.pow 2 t)|_=>m
def Ja(k:List Operand):Nat:=k.foldr I9 0
def Kq(T:Oper):Nat:=match T.dst with|some d=>Nat.pow 2 d|none=>0
def Oz(wr:List (Nat×Nat))(g:Option (Nat×Bool)):Nat:=match g with
 |none=>0
 |some (V,_)=>(match xx V wr with|some t=>Nat.pow 2 t|none=>0)
def Ei(i1:List (Nat×Nat))(D:Edge)(m:Nat):Nat:=
 b0 (fR m D.on) (m)<|b0 (Region.binds .any D) ((match ev i1 D.on with|some u=>Nat.lor (Nat.lor m u) (Nat.pow 2 D.on)|none=>m))<|m
structure gC where
 i:Nat
 m:Nat
 r:Nat
 w:Nat
def Da:List Oper->Nat->List (Nat×Nat)->List (Nat×Nat)->List gC
 |[],_,_,_=>[]
 |T::k,i,wr,i1=>rr i λi=>rr (T.after.toList.foldr (Ei i1) 0) λm=>
  ⟨i,m,Nat.lor (Ja T.op.operands.toList) (Oz wr T.guard),Kq T⟩::Da k (i+1) (yX T i wr) ((i,m)::i1)
def Qs(F b:gC):Bool:=
 fR b.m F.i||(Nat.beq (Nat.land F.w (Nat.lor b.r b.w)) 0&&Nat.beq (Nat.land b.w F.r) 0)
def Qu(F:gC):List gC->Bool
 |[]=>true
 |b::k=>Qs F b&&Qu F k
def MA:List gC->Bool
 |[]=>true
 |F::k=>Qu F k&&MA k
def Li:List gC->Bool
 |[]=>true
 |F::k=>(match k with|[]=>true|b::_=>fR b.m F.i)&&Li k
def FR:List Oper->Nat->Bool
 |[],_=>true
 |T::k,i=>T.after.toList.all (λD=> !Region.binds .any D||Nat.blt D.on i)&&FR k (i+1)
def vU(m:Nat):List gC->Nat
 |[]=>0
 |a::k=>b0 (fR m a.i) (Nat.succ (vU m k))<|vU m k
def Cz(i:Nat):List gC->Nat
 |[]=>0
 |a::k=>b0 (fR a.m i) (0)<|Nat.succ (Cz i k)
structure qB where
 x:fI
 bO:Nat
 aG:Nat
def oE(T:ku):Bool:=match nx T with| .fC=>true|_=>false
def H6:List gC->List fI->List (gC×fI)
 |p::dm,c::cs=>b0 (oE c.op) ((p,c)::H6 dm cs)<|H6 dm cs
 |_,_=>[]
def IP(aC:List gC):List gC->List fI->List qB
 |p::dm,c::cs=>b0 (oE c.op) (IP aC dm cs)<|⟨c,vU p.m aC,Cz p.i aC⟩::IP aC dm cs
 |_,_=>[]
def uH(u:Nat):List qB->List fI
 |[]=>[]
 |k::fO=>b0 (Nat.beq k.bO u) (k.x::uH u fO)<|uH u fO
def F2(u:Nat):List qB->List fI
 |[]=>[]
 |k::fO=>b0 (Nat.blt k.bO u&&Nat.ble u k.aG&&Ds k.x.op) (k.x::F2 u fO)<|F2 u fO
def A9(fO:List qB):Nat->List (gC×fI)->List xk
 |u,[]=>[⟨uH u fO,F2 u fO,none⟩]
 |u,(_,af)::k=>⟨uH u fO,F2 u fO,some af⟩::A9 fO (u+1) k
def rs:List (gC×fI)->List gC
 |[]=>[]
 |(p,_)::k=>p::rs k
structure RA where
 l0:List xk
 fin:List (Nat×Nat)
def Mq(C:aN)(n:Nat)(av:Array Oper)(aq:Nat):Option RA:=
 match tt C n aq av.toList 0 []with
 |none=>none
 |some cs=>(λall=>(λaC=>b0 (FR av.toList 0&&MA all&&Li (rs aC)) (some ⟨A9 (IP (rs aC) all cs) 0 aC,lQ aq av.toList 0⟩)<|none) (H6 all cs)) (Da av.toList 0 [] [])
def adG:List Oper->Nat->Nat->Nat
 |[],_,r=>r
 |T::k,ac9,r=>adG k (Nat.lor ac9 (Kq T)) ((λrd=>Nat.lor r (Nat.xor rd (Nat.land rd ac9))) (Ja T.op.operands.toList))
def kY:Code->Nat
 | .region _ av _=>adG av.toList 0 0
 | .seq F b=>Nat.lor (kY F) (kY b)
 | .cond c F b=>I9 c (Nat.lor (kY F) (kY b))
 | .block _ b=>kY b
 | .loop b=>kY b
 | .scope b=>kY b
 | .rangeFunc f _ F b=>I9 f (Nat.lor (kY F) (kY b))
 |_=>0
def oL(k:List ResultVar):Nat:=k.foldr (λx r=>match x with| .tmp t=>Nat.lor r (Nat.pow 2 t)| .cell F _=>Nat.lor r (Nat.pow 2 F)) 0
def mr(C:aN)(aq:Nat):Code->Bool
 | .seq F b=>mr C aq F&&mr C aq b
 | .cond c F b=>Be C aq [] c&&(mr C aq F&&mr C aq b)
 | .block _ b=>mr C aq b
 | .loop b=>mr C aq b
 | .scope b=>mr C aq b
 | .rangeFunc f _ F b=>Be C aq [] f&&(mr C aq F&&mr C aq b)
 |_=>true
def Bj(aq:Nat):List ResultVar->Bool
 |[]=>true
 | .tmp t::k=>fR aq t&&Bj aq k
 | .cell F _::k=>fR aq F&&Bj aq k
end
end Go.bg
@[match_pattern]abbrev Go.bg.E.Z(x:Int):Go.bg.E:=.int .i64 x
@[match_pattern]abbrev Go.bg.E.zF:Go.bg.E:=.bool false
@[match_pattern]abbrev Go.bg.E.zT:Go.bg.E:=.bool true
namespace Go.bg
@[simp] def fo{α:Type _}(F b:α):b0 true F b=F:=rfl
@[simp] def lo{α:Type _}(F b:α):b0 false F b=b:=rfl
def fw{α:Type _}(c:Bool)(F b:α):b0 c F b=if c=true then F else b:=by cases c<;>rfl
def ia{α:Type _}(x e:Nat)(F b:α):b0 (Nat.beq x e) F b=if x=e then F else b:=by
 rw[fw];by_cases a:x=e
 ·rw[Zp a,Zp (Nat.beq_eq▸a)]
 ·rw[Zg a,Zg (λD=>a (Zn D))]
@[simp] def fb{α:Type _}(c:Bool)(F:Option α)(v:α):b0 c F none=some v↔c=true/\F=some v:=by cases c<;>simp
@[simp] def mW{eU:Type}(n:Nat)(u:Nat->eU):rr n u=u n:=by cases n<;>rfl
@[simp] def HA{eU:Type}(n:Int)(u:Int->eU):Tl n u=u n:=by
  cases n with
  |ofNat m=>exact mW m λm=>u (.ofNat m)
  |negSucc m=>exact mW m λm=>u (.negSucc m)
@[simp] def hf{α eU:Type}(t:S α)(u:S α->eU):j6 t u=u t:=by cases t<;>rfl
@[simp] def apJ{α:Type}(V:Nat):ev ([]:List (Nat×α)) V=none:=rfl
def sq{α:Type}(F:Nat)(b:α)(k:List (Nat×α))(V:Nat):ev ((F,b)::k) V=if F=V then some b else ev k V:=by
 show b0 (Nat.beq F V) (some b) (ev k V)=_
 rw[ia]
@[simp] def qi{α:Type}(k:List α):∀i,sY k i=k[i]? :=by
  induction k with
  |nil=>intro i;rfl
  |cons F k ah=>intro i;cases i with
   |zero=>rfl
   |succ V=>exact ah V
namespace S
variable{α:Type}
@[simp] def aFI(i:Nat):(S.nil:S α).get i=none:=rfl
@[simp] def aFJ(v:Option α)(k r:S α):(S.node v k r).get 0=v:=rfl
def Cg(v:Option α)(k r:S α)(V:Nat):(S.node v k r).get (V+1)=if V%2=0 then k.get (V/2)else r.get (V/2):=by
 show b0 (Nat.beq (V%2) 0) (k.get (V/2)) (r.get (V/2))=_
 rw[ia]
def aCS(f:Nat)(F:Option α):s1 (f+1) S.nil 0 F= .node F .nil .nil:=rfl
def aCR(f V:Nat)(F:Option α):s1 (f+1) S.nil (V+1) F=
 if V%2=0 then .node none (s1 f .nil (V/2) F) .nil else .node none .nil (s1 f .nil (V/2) F):=by
 show b0 (Nat.beq (V%2) 0) (j6 (s1 f .nil (V/2) F) λbS=>S.node none bS S.nil) (j6 (s1 f .nil (V/2) F) λik=>S.node none S.nil ik)=_
 rw[ia,hf,hf]
def aCU(f:Nat)(v:Option α)(k r:S α)(F:Option α):s1 (f+1) (.node v k r) 0 F= .node F k r:=rfl
def aCT(f V:Nat)(v:Option α)(k r:S α)(F:Option α):s1 (f+1) (.node v k r) (V+1) F=
 if V%2=0 then .node v (s1 f k (V/2) F) r else .node v k (s1 f r (V/2) F):=by
 show b0 (Nat.beq (V%2) 0) (j6 (s1 f k (V/2) F) λbS=>S.node v bS r) (j6 (s1 f r (V/2) F) λik=>S.node v k ik)=_
 rw[ia,hf,hf]
def ath:∀(f:Nat) (t:S α) (i V:Nat) (F:Option α),i<f->(s1 f t i F).get V=if i=V then F else t.get V:=by
 intro f
 induction f with
 |zero=>intro t i V F a;omega
 |succ f ah=>
  intro t i V F a
  cases i with
  |zero=>
   cases t with
   |nil=>rw[aCS];cases V with
    |zero=>simp
    |succ V=>rw[Cg];simp
   |node v k r=>rw[aCU];cases V with
    |zero=>simp
    |succ V=>rw[Cg,Cg];simp
  |succ i=>
   have aG:i/2<f:=Zo
   cases t with
   |nil=>
    rw[aCR]
    cases V with
    |zero=>split<;>simp
    |succ V=>
     by_cases D:i%2=0
     ·rw[Zp D,Cg]
      by_cases g9:V%2=0
      ·rw[Zp g9,ah _ _ _ _ aG]
       by_cases ak:i/2=V/2
       ·rw[Zp ak,Zp Zo]
       ·rw[Zg ak,Zg Zo];rfl
      ·rw[Zg g9,Zg Zo];rfl
     ·rw[Zg D,Cg]
      by_cases g9:V%2=0
      ·rw[Zp g9,Zg Zo];rfl
      ·rw[Zg g9,ah _ _ _ _ aG]
       by_cases ak:i/2=V/2
       ·rw[Zp ak,Zp Zo]
       ·rw[Zg ak,Zg Zo];rfl
   |node v k r=>
    rw[aCT]
    cases V with
    |zero=>split<;>simp
    |succ V=>
     rw[Cg v k r]
     by_cases D:i%2=0
     ·rw[Zp D,Cg]
      by_cases g9:V%2=0
      ·rw[Zp g9,Zp g9,ah _ _ _ _ aG]
       by_cases ak:i/2=V/2
       ·rw[Zp ak,Zp Zo]
       ·rw[Zg ak,Zg Zo]
      ·rw[Zg g9,Zg g9,Zg Zo]
     ·rw[Zg D,Cg]
      by_cases g9:V%2=0
      ·rw[Zp g9,Zp g9,Zg Zo]
      ·rw[Zg g9,Zg g9,ah _ _ _ _ aG]
       by_cases ak:i/2=V/2
       ·rw[Zp ak,Zp Zo]
       ·rw[Zg ak,Zg Zo]
def jP(t:S α)(i V:Nat)(F:Option α):(t.set i F).get V=if i=V then F else t.get V:=ath _ _ _ _ _ Zo
def Oo(k:List α):∀(i:Nat) (t:S α) (V:Nat),(ofList k i t).get V=if i<=V/\V<i+k.length then k[V-i]? else t.get V:=by
 induction k with
 |nil=>intro i t V;simp only[ofList,Z0];rw[Zg Zo]
 |cons F k ah=>
  intro i t V
  simp only[ofList,hf]
  rw[ah,jP]
  by_cases D:i=V
  ·subst D;rw[Zg Zo,Zp rfl,Zp Zs];simp
  ·rw[Zg D]
   by_cases ak:i+1<=V/\V<i+1+k.length
   ·rw[Zp ak,Zp Zx]
    have:V-i=(V-(i+1))+1:=Zo
    rw[this,ZV]
   ·rw[Zg ak,Zg Zx]
def Ty(t:S α):∀(n T:Nat) (k:List α),t.lq T n=some k->k.length=n/\∀i,i<n->t.get (T+i)=k[i]? :=by
 intro n
 induction n with
 |zero=>intro T k a;simp[lq]at a;subst a;simp
 |succ n ah=>
  intro T k a
  simp only[lq]at a
  cases bV:t.get T with
  |none=>simp[bV]at a
  |some F=>
   simp only[bV]at a
   cases Y:lq t (T+1) n with
   |none=>simp[Y]at a
   |some r=>
    simp only[Y,Zf]at a
    subst a
    obtain⟨H,M⟩:=ah _ _ Y
    refine⟨by simp[H],λi aG=> ?_⟩
    cases i with
    |zero=>simpa using bV
    |succ i=>rw[show T+(i+1)=T+1+i by omega,M i Zo];simp
end S
def XR(k:List E):∀(c:S E) (T:Nat),d7 c T k=S.ofList k T c:=by
 induction k with
 |nil=>intro c T;rfl
 |cons v k ah=>intro c T;simp only[d7,S.ofList,hf];exact ah _ _
structure nf where
 cO:Nat
 ek:Nat
 room:Nat
 deriving Inhabited
abbrev dd:=Nat->nf
def nS(U:dd):Fn->Fn
 | .yield k=> .yield (U k).cO
 |f=>f
def gj(s:List Nat):ByteArray:=⟨(s.map UInt8.ofNat).toArray⟩
mutual
def aT(U:dd):E->Value
 | .bool b=> .bool b
 | .int u n=> .int u n
 | .str s=> .string (gj s)
 | .ptr b T=> .pointer (some ⟨(U b).cO,(U b).ek+T,none⟩)
 | .cN=> .pointer none
 | .slice b T len cap=> .slice (some ⟨(U b).cO,(U b).ek+T,none⟩) len cap
 | .fl b T len bd=> .slice (some ⟨(U b).cO,(U b).ek+T,none⟩) len (((U b).room-T)/bd)
 | .aY=> .slice none 0 0
 | .map m=> .map (some (U m).cO)
 | .mL=> .map none
 | .func fn F b=> .func (nS U fn) (b3 U F).toArray (b3 U b).toArray
 | .nilFunc=> .nilFunc
 | .iface t v=> .iface t (aT U v)
 | .nilIface=> .nilIface
 | .agg cs=> .agg (b3 U cs).toArray
 | .tuple bk=> .tuple (b3 U bk).toArray
def b3(U:dd):List E->List Value
 |[]=>[]
 |v::k=>aT U v::b3 U k
end
def qG(U:dd)(k:List E):b3 U k=k.map (aT U):=by
 induction k with
 |nil=>rfl
 |cons v k ah=>simp[b3,ah]
def Ot(ae:Nat->Prop):Fn->Prop
 | .yield k=>ae k
 | .func _=>True
 |_=>False
mutual
def co(ae:Nat->Prop):E->Prop
 | .bool _=>True
 | .int _ _=>True
 | .str s=>∀x∈s,x<256
 | .ptr b _=>ae b
 | .cN=>True
 | .slice b _ _ _=>ae b
 | .fl b _ _ _=>ae b
 | .aY=>True
 | .map m=>ae m
 | .mL=>True
 | .func fn F b=>Ot ae fn/\ey ae F/\ey ae b
 | .nilFunc=>True
 | .iface _ v=>co ae v
 | .nilIface=>True
 | .agg cs=>ey ae cs
 | .tuple bk=>ey ae bk
def ey(ae:Nat->Prop):List E->Prop
 |[]=>True
 |v::k=>co ae v/\ey ae k
end
def v2(ae:Nat->Prop)(k:List E):ey ae k↔∀v∈k,co ae v:=by
 induction k with
 |nil=>simp[ey]
 |cons v k ah=>simp[ey,ah]
mutual
def SF{U ja:dd}{ae:Nat->Prop}(a:∀b,ae b->U b=ja b):∀v,co ae v->aT U v=aT ja v
 | .bool _,_=>rfl
 | .int _ _,_=>rfl
 | .str _,_=>rfl
 | .ptr b T,g=>by simp only[aT,a b g]
 | .cN,_=>rfl
 | .slice b T k c,g=>by simp only[aT,a b g]
 | .fl b T k c,g=>by simp only[aT,a b g]
 | .aY,_=>rfl
 | .map m,g=>by simp only[aT,a m g]
 | .mL,_=>rfl
 | .func fn F b,g=>by
   obtain⟨bP,b2,cI⟩:=g
   have D:nS U fn=nS ja fn:=by
    cases fn<;>simp only[nS]
    rw[a _ bP]
   simp only[aT,D,Hq a F b2,Hq a b cI]
 | .nilFunc,_=>rfl
 | .iface t v,g=>by simp only[aT,SF a v g]
 | .nilIface,_=>rfl
 | .agg cs,g=>by simp only[aT,Hq a cs g]
 | .tuple bk,g=>by simp only[aT,Hq a bk g]
def Hq{U ja:dd}{ae:Nat->Prop}(a:∀b,ae b->U b=ja b):∀k,ey ae k->b3 U k=b3 ja k
 |[],_=>rfl
 |v::k,g=>by simp only[b3,SF a v g.1,Hq a k g.2]
end
mutual
def pT{ae dp:Nat->Prop}(a:∀b,ae b->dp b):∀v,co ae v->co dp v
 | .bool _,_=>trivial
 | .int _ _,_=>trivial
 | .str _,g=>g
 | .ptr b _,g=>a b g
 | .cN,_=>trivial
 | .slice b _ _ _,g=>a b g
 | .fl b _ _ _,g=>a b g
 | .aY,_=>trivial
 | .map m,g=>a m g
 | .mL,_=>trivial
 | .func fn F b,g=>⟨by cases fn<;>first|exact a _ g.1|exact g.1,sy a F g.2.1,sy a b g.2.2⟩
 | .nilFunc,_=>trivial
 | .iface _ v,g=>pT a v g
 | .nilIface,_=>trivial
 | .agg cs,g=>sy a cs g
 | .tuple bk,g=>sy a bk g
def sy{ae dp:Nat->Prop}(a:∀b,ae b->dp b):∀k,ey ae k->ey dp k
 |[],_=>trivial
 |v::k,g=>⟨pT a v g.1,sy a k g.2⟩
end
open Go.RowKit (Below)
structure j0(U:dd)(ae:Nat->Prop)(n aq:Nat)(I:S E)(tmps:Array Value):Prop where
 size:tmps.size=n
 val:∀t v,fR aq t=true->I.get t=some v->tmps[t]? =some (aT U v)/\co ae v
def RE(C:aN)(fn aq:Nat):Prop:=∃f,C.P.funcs[fn]? =some f/\Bj aq f.results.toList=true
def II(c:Code):Prop:=c= .ret\/∃id,c= .exit id
def D6(U:dd):Rj->Target
 | .fn fn f1=> .fn (nS U fn) (b3 U f1).toArray
 | .collected r=> .collected (U r).cO
def mo(U:dd)(d:h8):Deferred:=⟨D6 U d.target,(b3 U d.args).toArray⟩
def atp(ae:Nat->Prop):Rj->Prop
 | .fn fn f1=>Ot ae fn/\ey ae f1
 | .collected r=>ae r
def xD(ae:Nat->Prop)(d:h8):Prop:=atp ae d.target/\ey ae d.args
def G4(st:oo)(n:Nat)(pl:nf)(bd bO aG:Nat):Prop:=match st with
 | .own=>bO=aG
 | .marked=>bO=aG\/bd<=bO
 | .grow _=>(bO=aG\/bd<=bO)/\n<=pl.room/\pl.ek+pl.room<=bd
 | .kJ=>True/\n<=pl.room/\pl.ek+pl.room<=bd
def G4.free{st:oo}{n:Nat}{pl:nf}{bd bO aG:Nat}(a:G4 st n pl bd bO aG)(kU:st≠ .kJ):aG<=bO\/bd<=bO:=by
 cases st with
 |own=>exact .inl (ze a.symm)
 |marked=>exact a.imp (λD=>ze D.symm) id
 |grow _=>exact a.1.imp (λD=>ze D.symm) id
 |kJ=>exact absurd rfl kU
def mw(U:dd)(D:E×E×Nat):MapEntry:=⟨aT U D.1,aT U D.2.1,D.2.2⟩
def kL(C:aN)(U:dd)(ae:Nat->Prop)(T:ag)(pl:nf)(w:World):Prop:=match T with
 | .cells c n st=>∃ct ty bO aG,w.heap[pl.cO]? =some (.cells ct ty (bO,aG))/\G4 st n pl ct.size bO aG/\pl.ek+n<=ct.size/\
    ∀i v,c.get i=some v->ct[pl.ek+i]? =some (aT U v)/\co ae v
 | .map b8 ff=>∃ct,w.heap[pl.cO]? =some (.map ct ff)/\ct.toList=b8.map (mw U)/\∀D∈b8,co ae D.1/\co ae D.2.1
 | .look b8=>∃(ct:Array MapEntry) (ff:Nat) (mT:List (E×E×Nat)),w.heap[pl.cO]? =some (.map ct ff)/\ct.toList=mT.map (mw U)/\(mT.map λD=>(D.1,D.2.1)).Perm b8/\∀D∈mT,co ae D.1/\co ae D.2.1
 | .pu s pos=>pl.ek=0/\w.heap[pl.cO]? =some (.stringIter (gj s) pos)/\∀x∈s,x<256
 | .A8 m wV seen st=>pl.ek=0/\w.heap[pl.cO]? =some (.mapIter (m.map λb=>(U b).cO) wV seen.toArray st)/\∀b,m=some b->ae b
 | .IV m wV n ce st gW=>pl.ek=0/\ae m/\∃seen:List Nat,w.heap[pl.cO]? =some (.mapIter (some (U m).cO) wV seen.toArray st)/\(ce.filter λb=> !seen.contains b).length<=n/\∀b,gW=some b->ahz seen=some b
 | .loop state pending fn n aq I params assign body bj=>∃tmps,w.heap[pl.cO]? =some (.loop ⟨state,pending,fn,tmps,params.toArray,assign,body,(U bj).cO⟩)/\j0 U ae n aq I tmps/\ae bj/\
    mr C aq assign=true/\mr C aq body=true/\(∀c,pending=some c->II c)/\RE C fn aq
 | .deferred qE=>w.heap[pl.cO]? =some (.deferred (qE.map λk=>k.map (mo U)))/\∀k,qE=some k->∀d∈k,xD ae d
def RW(T o':ag)(b dD:Nat):Prop:=
 (∃c n fX aS,T= .cells c n .kJ/\o'= .cells fX aS .kJ)\/
 (∃c n k fX aS,T= .cells c n (.grow k)/\o'= .cells fX aS .kJ/\dD∈k/\aS<=n)\/
 (∃c n k fX aS,o'= .cells fX aS (.grow k)/\T= .cells c n .kJ/\b∈k/\n<=aS)
def xh(C:aN)(ae:Nat->Prop)(T:ag):Prop:=(∀c n k,T= .cells c n (.grow k)->∀x∈k,ae x/\C.a8<=x)/\∀c n st,T= .cells c n st->∀i v,c.get i=some v->i<n
structure dq(C:aN)(U:dd)(ae:Nat->Prop)(h:S ag)(j bx:Nat)(w:World):Prop where
 a8:C.a8<=j
 lt:∀b,ae b->b<j
 wN:∀b T,W C h b=some T->b<j
 obj:∀b T,W C h b=some T->ae b->kL C U ae T (U b) w
 sep:∀b dD T o',W C h b=some T->W C h dD=some o'->ae b->ae dD->b≠dD->C.a8<=b->(U b).cO=(U dD).cO->RW T o' b dD/\(U b).ek=(U dD).ek
 base:∀b T,C.a8<=b->W C h b=some T->ae b->bx<=(U b).cO
 eS:∀b T,W C h b=some T->ae b->xh C ae T
def jY(U:dd)(ae:Nat->Prop)(ax:Operand->Value)(eF:Operand->Option E)(k:List Operand):Prop:=
 ∀x∈k,∀v,eF x=some v->ax x=aT U v/\co ae v
section
variable{C:aN}{U:dd}{ae:Nat->Prop}{h:S ag}{j bx:Nat}{w:World}
def Sn(s:ByteArray):gj (s.data.toList.map (·.toNat))=s:=by
 unfold gj
 rw[Yt]
 have:(UInt8.ofNat∘λx:UInt8=>x.toNat)=id:=by funext x;simp
 rw[this]
 simp
def azC{α eU:Type}(f:α->Option eU):∀(k:List α) (r:List eU),C7 f k=some r->r.length=k.length/\∀(i:Nat) (F:α),k[i]? =some F->∃b,r[i]? =some b/\f F=some b:=by
 intro k
 induction k with
 |nil=>intro r a;simp[C7]at a;subst a;simp
 |cons F k ah=>
  intro r a
  simp only[C7]at a
  cases b4:f F with
  |none=>simp[b4]at a
  |some b=>
   simp only[b4]at a
   cases Y:C7 f k with
   |none=>simp[Y]at a
   |some ik=>
    simp only[Y,Zf]at a
    subst a
    obtain⟨H,M⟩:=ah _ Y
    refine⟨by simp[H],λi x af=> ?_⟩
    cases i with
    |zero=>simp at af;subst af;exact⟨b,Zs,b4⟩
    |succ i=>simp at af;obtain⟨e,z,axC⟩:=M i x af;exact⟨e,by simpa using z,axC⟩
def aAD(U:dd)(ae:Nat->Prop):∀(n:Nat) (v:Value) (F:E),Df n v=some F->v=aT U F/\co ae F:=by
 intro n
 induction n with
 |zero=>intro v F a;simp[Df]at a
 |succ n ah=>
  have list:∀(k:List Value) (r:List E),C7 (Df n) k=some r->k=b3 U r/\ey ae r:=by
   intro k r a
   obtain⟨H,M⟩:=azC _ k r a
   constructor
   ·rw[qG]
    apply YS
    intro i
    rw[Zy]
    cases af:k[i]? with
    |none=>
     have:k.length<=i:=by simpa using af
     rw[Z6 Zo];rfl
    |some x=>
     obtain⟨b,aj,kh⟩:=M i x af
     rw[aj,(ah _ _ kh).1];rfl
   ·rw[v2]
    intro v bD
    obtain⟨i,aG⟩:=Z2.1 bD
    have c3:i<k.length:=by
     have:=(Zb.1 aG).1;omega
    obtain⟨b,aj,kh⟩:=M i k[i] (Ze c3)
    rw[aG]at aj;simp at aj;subst aj
    exact(ah _ _ kh).2
  intro v F a
  unfold Df at a
  split at a<;>(try(simp at a;subst a;simp[aT,co,nS,b3,Ot,ey];done))
  ·simp at a;subst a
   refine⟨by simp only[aT];rw[Sn], ?_⟩
   simp only[co]
   intro x af
   obtain⟨e,_,rfl⟩:=ZE.1 af
   exact e.toNat_lt
  ·rename_i t v
   split at a
   ·rename_i fB aE
    simp at a;subst a
    obtain⟨D,g⟩:=ah _ _ aE
    exact⟨by simp only[aT,D],g⟩
   ·simp at a
  ·rename_i cs
   split at a
   ·rename_i k az
    simp at a;subst a
    obtain⟨D,g⟩:=list _ _ az
    exact⟨by simp only[aT];rw[<-D],g⟩
   ·simp at a
  ·rename_i cs
   split at a
   ·rename_i k az
    simp at a;subst a
    obtain⟨D,g⟩:=list _ _ az
    exact⟨by simp only[aT];rw[<-D],g⟩
   ·simp at a
  ·simp at a
def Qp{v:Value}{F:E}(a:FQ v=some F):v=aT U F/\co ae F:=aAD U ae _ _ _ a
def sn(b T i:Nat):(⟨b,T,none⟩:Addr).add i=⟨b,T+i,none⟩:=by unfold Addr.add;split<;>simp_all
def aqr(Y:dq C U ae h j bx w){b:Nat}(aj:ae b){c:S E}(a:cellsOf C h b=some c):
 ∃ct ty bO aG,w.heap[(U b).cO]? =some (.cells ct ty (bO,aG))/\∀i v,c.get i=some v->ct[(U b).ek+i]? =some (aT U v)/\co ae v:=by
 unfold cellsOf at a
 split at a
 ·rename_i fX n st bi
  simp at a;subst a
  obtain⟨ct,ty,bO,aG,H,_,_,aB⟩:=Y.obj b _ bi aj
  exact⟨ct,ty,bO,aG,H,aB⟩
 ·simp at a
def acP(Y:dq C U ae h j bx w){b:Nat}(aj:ae b){c:S E}(a:cellsOf C h b=some c){T:Nat}{v:E}(bV:c.get T=some v):
 w.cell? ⟨(U b).cO,(U b).ek+T,none⟩=some (aT U v)/\co ae v:=by
 obtain⟨ct,ty,bO,aG,H,aB⟩:=aqr Y aj a
 obtain⟨bw,b1⟩:=aB T v bV
 exact⟨by simp[World.cell?,H,bw],b1⟩
def NQ(Y:dq C U ae h j bx w){b:Nat}(aj:ae b){c:S E}(a:cellsOf C h b=some c){T n:Nat}{k:List E}(bV:c.lq T n=some k):
 (loadCells ⟨(U b).cO,(U b).ek+T,none⟩ n).run C.P w= .ok (b3 U k).toArray w/\ey ae k:=by
 obtain⟨H,M⟩:=S.Ty _ _ _ _ bV
 have key:∀i v,k[i]? =some v->w.cell? ⟨(U b).cO,(U b).ek+T+i,none⟩=some (aT U v)/\co ae v:=by
  intro i v aG
  have c3:i<n:=zz (Zb.1 aG).1
  have:=acP Y aj a (T:=T+i) (v:=v) (by rw[M i c3,aG])
  rwa[<-ZR]at this
 constructor
 ·have az:=run_loadCells_list (P:=C.P) w ⟨(U b).cO,(U b).ek+T,none⟩ (b3 U k) (λV v bD=>by
   rw[sn]
   rw[qG,Zy]at bD
   cases af:k[V]? with
   |none=>simp[af]at bD
   |some F=>simp[af]at bD;subst bD;exact(key V F af).1)
  have eM:(b3 U k).length=n:=by rw[qG,Zi,H]
  rw[eM]at az
  exact az
 ·rw[v2]
  intro v bD
  obtain⟨i,aG⟩:=Z2.1 bD
  exact(key i v aG).2
def aDX{t n:Nat}(a:jW C t=some n):∃i,C.P.info? t=some i/\i.size=n:=by
 unfold jW at a
 cases aG:C.P.info? t with
 |none=>simp[aG]at a
 |some i=>simp[aG]at a;exact⟨i,rfl,a⟩
def ql{t n:Nat}(a:jW C t=some n)(w:World):(sizeOf t).run C.P w= .ok n w:=by
 obtain⟨i,aG,rfl⟩:=aDX a
 simp[sizeOf,typeInfo,aG]
def F6{t:Nat}{bE:E}(a:uC C t=some bE)(U:dd)(ae:Nat->Prop)(w:World):(zeroValue t).run C.P w= .ok (aT U bE) w/\co ae bE:=by
 unfold uC at a
 cases aG:C.P.info? t with
 |none=>simp[aG]at a
 |some i=>
  simp only[aG]at a
  cases cx:i.zero with
  |none=>simp[cx]at a
  |some v=>
   simp only[cx]at a
   obtain⟨D,g⟩:=Qp (U:=U) (ae:=ae) a
   exact⟨by simp[zeroValue,typeInfo,aG,cx,D],g⟩
def QR{t:Nat}{b:Bool}(a:Fl C t=some b)(w:World):(isAgg t).run C.P w= .ok b w:=by
 unfold Fl at a
 cases bc:C.P.underlying t with
 |none=>simp[bc]at a
 |some d=>
  simp only[bc]at a
  cases d<;>simp at a<;>subst a<;>simp[isAgg,run_underlying bc]
end
section
variable{C:aN}{U:dd}{ae:Nat->Prop}{h:S ag}{j bx:Nat}{w:World}
def ov{wr:List (Nat×Nat)}{x:Operand}{uP:k4}(a:nG wr x=some uP)(au:List (Nat×E))(I:S E):lP uP au I=jM wr au I x:=by
 cases x with
 |tmp t=>
  simp only[nG]at a
  cases aE:ev wr t with
  |none=>simp[aE]at a;subst a;simp[lP,jM,aE]
  |some V=>simp[aE]at a;subst a;simp[lP,jM,aE]
 |const v=>
  simp only[nG]at a
  cases bD:FQ v with
  |none=>simp[bD]at a
  |some F=>simp[bD]at a;subst a;simp[lP,jM,bD]
 |global g=>simp[nG]at a;subst a;rfl
 |func f=>simp[nG]at a;subst a;rfl
def ar5{wr:List (Nat×Nat)}(au:List (Nat×E))(I:S E):∀{k:List Operand}{cs:List k4}{bk:List E},Jx wr k=some cs->Ca au I cs=some bk->
 bk.length=k.length/\∀(i:Nat) x,k[i]? =some x->∃v,bk[i]? =some v/\jM wr au I x=some v:=by
 intro k
 induction k with
 |nil=>intro cs bk H M;simp[Jx]at H;subst H;simp[Ca]at M;subst M;simp
 |cons x k ah=>
  intro cs bk H M
  simp only[Jx]at H
  cases af:nG wr x with
  |none=>simp[af]at H
  |some uP=>
   cases az:Jx wr k with
   |none=>simp[af,az]at H
   |some tu=>
    simp[af,az]at H;subst H
    simp only[Ca]at M
    cases bD:lP uP au I with
    |none=>simp[bD]at M
    |some v=>
     cases Y:Ca au I tu with
     |none=>simp[bD,Y]at M
     |some r=>
      simp[bD,Y]at M;subst M
      obtain⟨F,b⟩:=ah az Y
      refine⟨by simp[F],λi e z=> ?_⟩
      cases i with
      |zero=>simp at z;subst z;exact⟨v,Zs,by rw[<-ov af];exact bD⟩
      |succ i=>simp at z;simpa using b i e z
def ar3{ax:Operand->Option E}:∀{k:List Operand}{bk:List E},qJ ax k=some bk->
 bk.length=k.length/\∀(i:Nat) x,k[i]? =some x->∃v,bk[i]? =some v/\ax x=some v:=by
 intro k
 induction k with
 |nil=>intro bk a;simp[qJ]at a;subst a;simp
 |cons x k ah=>
  intro bk a
  simp only[qJ]at a
  cases af:ax x with
  |none=>simp[af]at a
  |some v=>
   cases az:qJ ax k with
   |none=>simp[af,az]at a
   |some r=>
    simp[af,az]at a;subst a
    obtain⟨F,b⟩:=ah az
    refine⟨by simp[F],λi e z=> ?_⟩
    cases i with
    |zero=>simp at z;subst z;exact⟨v,Zs,af⟩
    |succ i=>simp at z;simpa using b i e z
def ahW{ax:Operand->Value}{eF:Operand->Option E}{k:List Operand}{bk:List E}(cK:jY U ae ax eF k)(H:bk.length=k.length)
 (M:∀(i:Nat) x,k[i]? =some x->∃v,bk[i]? =some v/\eF x=some v):k.map ax=b3 U bk/\ey ae bk:=by
 constructor
 ·rw[qG]
  apply YS
  intro i
  rw[Zy,Zy]
  cases af:k[i]? with
  |none=>
   have:k.length<=i:=by simpa using af
   rw[Z6 Zo];rfl
  |some x=>
   obtain⟨v,bD,bA⟩:=M i x af
   rw[bD]
   simp[(cK x (Zl af) v bA).1]
 ·rw[v2]
  intro v bD
  obtain⟨i,aG⟩:=Z2.1 bD
  have c3:i<k.length:=zz (Zb.1 aG).1
  obtain⟨ac,bc,bA⟩:=M i k[i] (Ze c3)
  rw[aG]at bc;simp at bc;subst bc
  exact(cK _ (List.getElem_mem c3) v bA).2
def xn{ax:Operand->Value}{eF:Operand->Option E}{F:Array Operand}{bk:List E}(cK:jY U ae ax eF F.toList)(a:qJ eF F.toList=some bk):
 F.map ax=(b3 U bk).toArray/\ey ae bk:=by
 obtain⟨H,M⟩:=ar3 a
 obtain⟨al,aB⟩:=ahW cK H M
 refine⟨?_,aB⟩
 apply Y2
 simp[al]
def akp(u:IntKind)(n:Int):qu u n=u.wrap n:=by
 cases u<;>simp only[qu]<;>try rfl
 simp only[fw,IntKind.wrap,IntKind.bits,IntKind.signed,Zh,zk,ge_iff_le]
 have bC:((2:Int)^64)=18446744073709551616:=by decide
 have cu:((2:Int)^(64-1))=9223372036854775808:=by decide
 rw[bC,cu]
 by_cases a:n%18446744073709551616<9223372036854775808
 ·rw[Zp a,Zg (by simpa using a)]
 ·rw[Zg a,Zp (by simpa using a)]
@[simp] def aG6(u:IntKind)(n:Int):lT u n=some (.int u (u.wrap n)):=by simp[lT,akp]
@[simp] def ag4(u:IntKind)(n:Int):p9 u n=some (.int u n):=by simp[p9]
@[simp] def xq(b:Bool):nR b=some (.bool b):=by cases b<;>rfl
@[simp] def Ho{α:Type _}(c:Bool)(F:Option α)(v:α):b0 c none F=some v↔c=false/\F=some v:=by cases c<;>simp
@[simp] def A0(x e:Int):uc x e=decide (x=e):=by
  rw[Z9,Zh]
  cases x<;>cases e
  ·exact⟨λa=>by rw[Zn a],λa=>by cases a;exact zf _⟩
  ·exact⟨(λa=>by cases a),(λa=>by cases a)⟩
  ·exact⟨(λa=>by cases a),(λa=>by cases a)⟩
  ·exact⟨λa=>by rw[Zn a],λa=>by cases a;exact zf _⟩
@[simp] def vf(x e:Int):A1 x e=decide (x<e):=by
  rw[Z9,Zh]
  cases x with
  |ofNat F=>cases e with
   |ofNat b=>show Nat.blt F b=true↔(F:Int)<(b:Int);simp[Nat.blt];omega
   |negSucc b=>show false=true↔(F:Int)<Int.negSucc b;simp;omega
  |negSucc F=>cases e with
   |ofNat b=>show true=true↔Int.negSucc F<(b:Int);simp;omega
   |negSucc b=>show Nat.blt b F=true↔Int.negSucc F<Int.negSucc b;simp[Nat.blt];omega
@[simp] def ahn(u fh:IntKind):mJ u fh=decide (u=fh):=by cases u<;>cases fh<;>rfl
@[simp] def ap5(F b:Bool):Hk F b=(F==b):=by cases F<;>cases b<;>rfl
def apb{op:BinOp}{u:IntKind}{x e:Int}{v:E}(t:TypeId)(a:l4 op u x e=some v)(aC:mc op=false):
 (binOp op t (.int u x) (.int u e)).run C.P w= .ok (aT U v) w/\co ae v:=by
 cases op<;>simp[l4,mc,binOp,Op.intArith,Op.intDiv,Op.intBits,Op.intCmp]at a aC ⊢ <;>
  first
  |(subst a;simp[aT,co];done)
  |(obtain⟨H,a⟩:=a;subst a;simp[aT,co,H];done)
  |(subst a;exact⟨rfl,trivial⟩)
  |(subst a;refine⟨?_,trivial⟩;simp only[aT];congr 1;rw[Z9];simp;done)
def api{op:BinOp}{u fh:IntKind}{x e:Int}{v:E}(t:TypeId)(a:J3 op u x e=some v):
 (binOp op t (.int u x) (.int fh e)).run C.P w= .ok (aT U v) w/\co ae v:=by
 unfold J3 at a
 simp only[vf,Ho,Zc]at a
 obtain⟨H,a⟩:=a
 cases op<;>simp[binOp,Op.shift,H]at a ⊢
 all_goals(subst a;simp[aT,co])
def ab3{op:BinOp}{x e v:E}(t:TypeId)(a:bv op x e=some v):
 (binOp op t (aT U x) (aT U e)).run C.P w= .ok (aT U v) w/\co ae v/\∃u F fh b,x= .int u F/\e= .int fh b:=by
 unfold bv at a
 split at a
 ·rename_i u F fh b
  simp only[aT]
  by_cases aC:mc op=true
  ·simp only[aC,fo]at a
   obtain⟨bC,cu⟩:=api (C:=C) (U:=U) (ae:=ae) (w:=w) (fh:=fh) t a
   exact⟨bC,cu,_,_,_,_,rfl,rfl⟩
  ·have aC:mc op=false:=by simpa using aC
   simp only[aC,lo,ahn,fb,Zh]at a
   obtain⟨rfl,a⟩:=a
   obtain⟨bC,cu⟩:=apb (C:=C) (U:=U) (ae:=ae) (w:=w) t a aC
   exact⟨bC,cu,_,_,_,_,rfl,rfl⟩
 ·simp at a
def Nn(U:dd)(ae:Nat->Prop)(P:Program)(w:World)(s:Sem Next)(v:E):Prop:=s.run P w= .ok (.value (aT U v)) w/\co ae v
def o2{P:Program}{s:Sem Value}{v:E}(a:s.run P w= .ok (aT U v) w/\co ae v):Nn U ae P w (do pure (.value (<-s))) v:=by
 refine⟨?_,a.2⟩
 simp[a.1]
def ab5(Y:dq C U ae h j bx w){t:TypeId}(ba:Fl C t=some false){F v:E}(aE:co ae F)(a:aU C h F=some v):
 (Instr.loadAt t (aT U F)).run C.P w= .ok (aT U v) w/\co ae v:=by
 unfold aU at a
 split at a
 ·rename_i b T
  split at a
  ·rename_i c aA
   obtain⟨H,M⟩:=acP Y aE aA a
   refine⟨?_,M⟩
   simp[Instr.loadAt,Instr.sureAddr,aT,loadVar,QR ba,H]
  ·simp at a
 ·simp at a
def ab6(Y:dq C U ae h j bx w){t:TypeId}{n:Nat}(ba:Fl C t=some true)(aC:jW C t=some n){F v:E}(aE:co ae F)(a:dE C h n F=some v):
 (Instr.loadAt t (aT U F)).run C.P w= .ok (aT U v) w/\co ae v:=by
 unfold dE at a
 split at a
 ·rename_i b T
  split at a
  ·rename_i c aA
   split at a
   ·rename_i k az
    simp at a;subst a
    obtain⟨H,M⟩:=NQ Y aE aA az
    refine⟨?_,M⟩
    simp[Instr.loadAt,Instr.sureAddr,aT,loadVar,QR ba,ql aC,H]
   ·simp at a
  ·simp at a
 ·simp at a
def ab7(Y:dq C U ae h j bx w){t:TypeId}{F v:E}(aE:co ae F)(a:mm C h t F=some v):
 (Instr.loadAt t (aT U F)).run C.P w= .ok (aT U v) w/\co ae v:=by
 unfold mm at a
 split at a
 ·rename_i s H M;exact ab6 Y H M aE a
 ·rename_i H;exact ab5 Y H aE a
 ·simp at a
def l6{F b:Nat}(a:Nat.blt F b=true):F<b:=by simp[Nat.blt]at a;omega
def j2{F b:Nat}(a:Nat.ble F b=true):F<=b:=by simpa using a
def FI{v:E}{n:Nat}(a:n4 v=some n):∃u,v= .int u (Int.ofNat n):=by
 unfold n4 at a
 split at a
 ·rename_i u bE
  split at a
  ·simp at a;subst a;exact⟨u,rfl⟩
  ·simp at a
 ·simp at a
def ase{s:TypeId}{kB:Array Field}{f bE:Nat}{tA:Field}(bc:C.P.underlying s=some (.struct kB))(b4:kB.toList[f]? =some tA)
 (cx:jW C tA.type=some bE)(mb:bE≠0){F v:E}(aE:co ae F)(a:hW tA.offset F=some v):
 (Instr.fieldAt s (aT U F) f).run C.P w= .ok (aT U v) w/\co ae v:=by
 unfold hW at a
 split at a
 ·rename_i b T
  simp at a;subst a
  have rE:kB[f]? =some tA:=by rw[<-b4];simp
  refine⟨?_,aE⟩
  simp[Instr.fieldAt,run_underlying bc,rE,Instr.sureAddr,aT,fieldPlace,ql cx,mb,sn,ZR]
 ·simp at a
def ax1{t:TypeId}{n bd i:Nat}{ep:TypeId}(bc:C.P.underlying t=some (.array n ep))(cx:jW C ep=some bd)
 {F v:E}{u:IntKind}(aE:co ae F)(a:Nb n bd F i=some v):
 (Instr.indexAt t (aT U F) (.int u (Int.ofNat i))).run C.P w= .ok (aT U v) w/\co ae v:=by
 unfold Nb at a
 split at a
 ·rename_i b T
  simp only[fb,Zf]at a
  obtain⟨H,rfl⟩:=a
  have c3:i<n:=l6 H
  refine⟨?_,aE⟩
  simp[Instr.indexAt,asIntOf,run_underlying bc,Instr.sureAddr,aT,ql cx,c3,sn,ZR]
 ·simp at a
def ax4{t:TypeId}{bd i:Nat}{ep:TypeId}(bc:C.P.underlying t=some (.slice ep))(cx:jW C ep=some bd)
 {F v:E}{u:IntKind}(aE:co ae F)(a:DD bd F i=some v):
 (Instr.indexAt t (aT U F) (.int u (Int.ofNat i))).run C.P w= .ok (aT U v) w/\co ae v:=by
 unfold DD at a
 split at a
 ·rename_i b T n _
  simp only[fb,Zf]at a
  obtain⟨H,rfl⟩:=a
  have c3:i<n:=l6 H
  refine⟨?_,aE⟩
  simp[Instr.indexAt,asIntOf,run_underlying bc,aT,ql cx,c3,sn,ZR]
 ·rename_i b T n _
  simp only[fb,Zf]at a
  obtain⟨H,rfl⟩:=a
  have c3:i<n:=l6 H
  refine⟨?_,aE⟩
  simp[Instr.indexAt,asIntOf,run_underlying bc,aT,ql cx,c3,sn,ZR]
 ·simp at a
def aFc{F v:E}(aE:co ae F)(a:rf F=some v):v=F/\(∀oper:Oper,∀ax:Operand->Value,∀x,oper.op= .nilCheck x->ax x=aT U F->(execOp ax oper).run C.P w= .ok (.value (aT U v)) w):=by
 unfold rf at a
 split at a
 ·simp at a;subst a
  refine⟨rfl,λoper ax x bi af=> ?_⟩
  simp[execOp,bi,af,aT]
 ·split at a
  ·simp at a;subst a
   refine⟨rfl,λoper ax x bi af=> ?_⟩
   simp[execOp,bi,af,aT,nS]
  ·simp at a;subst a
   refine⟨rfl,λoper ax x bi af=> ?_⟩
   simp[execOp,bi,af,aT,nS]
  ·simp at a
 ·simp at a;subst a
  refine⟨rfl,λoper ax x bi af=> ?_⟩
  simp[execOp,bi,af,aT]
 ·simp at a
def aFb{i:Nat}{F v:E}(aE:co ae F)(a:oh i F=some v):(Instr.extract (aT U F) i).run C.P w= .ok (aT U v) w/\co ae v:=by
 unfold oh at a
 split at a
 ·rename_i bk
  rw[qi]at a
  refine⟨?_,(v2 ae bk).1 aE v (Zl a)⟩
  simp[Instr.extract,aT,qG,a]
 ·simp at a
def adD{ax:Operand->Value}{eF:Operand->Option E}:∀{k:List (Nat×Operand)}{dm:List (Nat×E)},jY U ae ax eF (k.map (·.2))->Af eF k=some dm->
 k.map (λx=>(x.1,ax x.2))=dm.map (λx=>(x.1,aT U x.2))/\∀x∈dm,co ae x.2:=by
 intro k
 induction k with
 |nil=>intro dm _ a;simp[Af]at a;subst a;simp
 |cons F k ah=>
  intro dm cK a
  obtain⟨i,x⟩:=F
  simp only[Af]at a
  cases af:eF x with
  |none=>simp[af]at a
  |some v=>
   cases az:Af eF k with
   |none=>simp[af,az]at a
   |some r=>
    simp[af,az]at a;subst a
    obtain⟨F,b⟩:=ah (λe z=>cK e (by simp at z ⊢;exact .inr z)) az
    obtain⟨c,d⟩:=cK x Zs v af
    refine⟨by simp[F,c],λe z=> ?_⟩
    cases z with
    |head=>exact d
    |tail _ z=>exact b e z
def vR(U:dd)(v:E):(aT U v).cells=(b3 U v.cells).toArray:=by
 cases v<;>simp[aT,Value.cells,E.cells,b3]
def vS{v:E}(a:co ae v):ey ae v.cells:=by
 cases v with
 |agg cs=>exact a
 |_=>exact⟨a,trivial⟩
def asy(U:dd):∀(bk:List E) (cs:List E) (off u:Nat),
 ((b3 U bk).zipIdx u).foldl (λ(cs:Array Value) (x:Value×Nat)=>cs.setIfInBounds (off+x.2) x.1) (b3 U cs).toArray=(b3 U (nE cs (off+u) bk)).toArray:=by
 intro bk
 induction bk with
 |nil=>intro cs off u;rfl
 |cons v bk ah=>
  intro cs off u
  simp only[b3,List.zipIdx_cons,ZH,nE]
  have:(b3 U cs).toArray.setIfInBounds (off+u) (aT U v)=(b3 U (cs.set (off+u) v)).toArray:=by
   apply Y2
   simp[qG,List.map_set]
  rw[this,ah]
  rfl
def att{cs:List E}{i:Nat}{v:E}(a:ey ae cs)(bD:co ae v):ey ae (cs.set i v):=by
 rw[v2]at a ⊢
 intro x af
 rcases YQ af with cF|cF
 ·exact a x cF
 ·rw[cF];exact bD
def atu:∀(bk cs:List E) (T:Nat),ey ae cs->ey ae bk->ey ae (nE cs T bk):=by
 intro bk
 induction bk with
 |nil=>intro cs T a _;exact a
 |cons v bk ah=>intro cs T a bD;exact ah _ _ (att a bD.1) bD.2
def Ta{Je MD:Nat->Option (Nat×Nat)}(ay:∀i x,Je i=some x->MD i=some x):∀(dm:List (Nat×E)) (cs r:List E),ey ae cs->(∀x∈dm,co ae x.2)->
 Cc Je cs dm=some r->Instr.fill MD (b3 U cs).toArray (dm.map λx=>(x.1,aT U x.2))=some (b3 U r).toArray/\ey ae r:=by
 intro dm
 induction dm with
 |nil=>intro cs r a _ b4;simp[Cc]at b4;subst b4;exact⟨rfl,a⟩
 |cons p dm ah=>
  intro cs r a bV b4
  obtain⟨i,v⟩:=p
  simp only[Cc]at b4
  cases tY:Je i with
  |none=>simp[tY]at b4
  |some x=>
   obtain⟨off,size⟩:=x
   simp only[tY,fb,Zq]at b4
   obtain⟨⟨H,M⟩,b4⟩:=b4
   have H:v.cells.length=size:=Zn H
   have M:off+size<=cs.length:=j2 M
   have avq:co ae v:=bV (i,v) Zs
   obtain⟨F,b⟩:=ah (nE cs off v.cells) r (atu _ _ _ a (vS avq)) (λx af=>bV x (by simp[af])) b4
   refine⟨?_,b⟩
   simp only[ZJ,Instr.fill,ay _ _ tY,vR]
   have eM:(b3 U v.cells).length=size:=by rw[qG,Zi,H]
   have wu:(b3 U cs).length=cs.length:=by rw[qG,Zi]
   rw[Zg]
   ·rw[<-F]
    congr 1
    have:=asy U v.cells cs off 0
    simp
    simpa using this
   ·simp[eM,wu];omega
def aCD{α eU:Type}(P:Program)(w:World)(f:α->Sem eU)(g:α->eU):∀(k:List α),(∀F∈k,(f F).run P w= .ok (g F) w)->(k.mapM f).run P w= .ok (k.map g) w:=by
 intro k
 induction k with
 |nil=>intro _;simp
 |cons F k ah=>intro a;simp[za,a F Zs,ah (λb aj=>a b (by simp[aj]))]
def aDS{kB:List Field}{i:Nat}{x:Nat×Nat}(a:Xs C kB i=some x):∃f s,kB[i]? =some f/\jW C f.type=some s/\x=(f.offset,s):=by
 unfold Xs at a
 rw[qi]at a
 split at a
 ·rename_i f b4
  split at a
  ·rename_i s aC
   simp at a
   exact⟨f,s,b4,aC,a.symm⟩
  ·simp at a
 ·simp at a
def J2{t:TypeId}{cs:List E}{off:Nat}{v:E}(bV:ey ae cs)(a:D0 C t cs off=some v):
 (part t (b3 U cs).toArray off).run C.P w= .ok (aT U v) w/\co ae v:=by
 unfold D0 at a
 split at a
 ·rename_i s H M
  simp at a;subst a
  constructor
  ·simp only[part,Sem.run_bind,QR H,Result.andThen_ok,ZG,ql M,Sem.run_pure,aT,qG]
   congr 2
   apply Y2
   simp[List.map_take,List.map_drop,List.take_drop]
  ·simp only[co]
   rw[v2]at bV ⊢
   exact λx af=>bV x (zb (zc af))
 ·rename_i H
  rw[qi]at a
  constructor
  ·simp[part,QR H,qG,a]
  ·exact(v2 ae cs).1 bV v (Zl a)
 ·simp at a
def apa{t:TypeId}{x i v:E}(af:co ae x)(a:NB C t x i=some v):(Instr.index t (aT U x) (aT U i)).run C.P w= .ok (aT U v) w/\co ae v:=by
 unfold NB at a
 split at a
 ·simp at a
 ·rename_i n aF
  obtain⟨u,rfl⟩:=FI aF
  split at a
  ·rename_i m ep cs bc
   split at a
   ·rename_i bd cx
    simp only[fb]at a
    obtain⟨H,M⟩:=a
    have c3:=l6 H
    obtain⟨al,aB⟩:=J2 (U:=U) (w:=w) af M
    refine⟨?_,aB⟩
    simp[Instr.index,asIntOf,aT,run_underlying bc,c3,ql cx,al]
   ·simp at a
  ·rename_i s bc
   rw[qi]at a
   split at a
   ·rename_i c aA
    simp at a;subst a
    refine⟨?_,trivial⟩
    have aj:(gj s)[n]? =some (UInt8.ofNat c):=by
     show(gj s).data[n]? =_
     simp[gj,aA]
    have c3:c<256:=af c (Zl aA)
    simp[Instr.index,asIntOf,aT,run_underlying bc,aj,YH c3]
   ·simp at a
  ·simp at a
def apm{op:UnOp}{x v:E}(a:gi op x=some v):(Op.unary op (aT U x)).run C.P w= .ok (aT U v) w/\co ae v:=by
 unfold gi at a
 split at a
 ·rename_i u n
  simp[l4]at a;subst a
  exact⟨by simp[Op.unary,Op.intArith,aT],trivial⟩
 ·rename_i u n
  simp[l4]at a;subst a
  exact⟨rfl,trivial⟩
 ·simp at a;subst a;exact⟨rfl,trivial⟩
 ·simp at a
def aAG:∀{k:List Field},Qr C k=true->∀f∈k,∃s,jW C f.type=some s:=by
 intro k
 induction k with
 |nil=>intro _ f b4;simp at b4
 |cons F k ah=>
  intro a f b4
  simp only[Qr,Zq]at a
  cases b4 with
  |head=>cases aC:jW C F.type with
   |none=>simp[aC]at a
   |some s=>exact⟨s,rfl⟩
  |tail _ b4=>exact ah a.2 f b4
def ao4{t:TypeId}{dm:List (Nat×E)}{v:E}(bV:∀x∈dm,co ae x.2)(a:Ny C t dm=some v):
 (Instr.build t ((dm.map λx=>(x.1,aT U x.2)).toArray)).run C.P w= .ok (aT U v) w/\co ae v:=by
 unfold Ny at a
 split at a
 ·simp at a
 ·rename_i bE cx
  obtain⟨IB,IC⟩:=F6 cx U ae w
  split at a
  ·rename_i kB bc
   simp only[fb]at a
   obtain⟨f6,a⟩:=a
   split at a
   ·rename_i cs iz
    simp at a;subst a
    have bn:(kB.mapM λf=>do pure (f.offset, <-sizeOf f.type):Sem (Array (Nat×Nat))).run C.P w= .ok (kB.toList.map λf=>(f.offset,(jW C f.type).getD 0)).toArray w:=by
     rw[Array.mapM_eq_mapM_toList,Sem.run_map,aCD C.P w _ (λf:Field=>(f.offset,(jW C f.type).getD 0)) _ (λf b4=>by
      obtain⟨s,aC⟩:=aAG f6 f b4
      simp[ql aC,aC])]
     rfl
    obtain⟨F,b⟩:=Ta (U:=U) (MD:=λi=>((kB.toList.map λf=>(f.offset,(jW C f.type).getD 0)).toArray)[i]?) (λi x af=>by
     obtain⟨f,s,H,M,rfl⟩:=aDS af
     simp at H
     simp[H,M]) dm bE.cells cs (vS IC) bV iz
    refine⟨?_,b⟩
    simp only[Instr.build,Sem.run_bind,IB,Result.andThen_ok,run_underlying bc,bn,vR,F,aT,Sem.run_pure]
   ·simp at a
  ·rename_i n ep bc
   split at a
   ·rename_i s aC
    split at a
    ·rename_i cs iz
     simp at a;subst a
     obtain⟨F,b⟩:=Ta (U:=U) (MD:=λi=>some (i*s,s)) (λ_ _ a=>a) dm bE.cells cs (vS IC) bV iz
     refine⟨?_,b⟩
     simp[Instr.build,IB,run_underlying bc,ql aC,vR,F,aT]
    ·simp at a
   ·simp at a
  ·simp at a
end
section
variable{C:aN}{U:dd}{ae:Nat->Prop}{h:S ag}{j bx:Nat}{w:World}
def ain{F b:Nat}(aE:F<256)(aj:b<256)(a:UInt8.ofNat F=UInt8.ofNat b):F=b:=by
 have:=congrArg UInt8.toNat a
 simp at this
 omega
def Mv:∀(x e:List Nat),m4 x e=true↔x=e
 |[],[]=>by simp[m4]
 |[],_::_=>by simp[m4]
 |_::_,[]=>by simp[m4]
 |F::x,b::e=>by
  simp only[m4,Zq,Mv x e,YE]
  exact⟨λ⟨a,D⟩=>⟨Zn a,D⟩,λ⟨a,D⟩=>⟨by rw[a];exact zf _,D⟩⟩
def azA:∀{x e:List Nat},(∀F∈x,F<256)->(∀F∈e,F<256)->x.map UInt8.ofNat=e.map UInt8.ofNat->x=e:=by
 intro x
 induction x with
 |nil=>intro e _ _ a;cases e with
  |nil=>rfl
  |cons b e=>simp at a
 |cons F x ah=>
  intro e af z a
  cases e with
  |nil=>simp at a
  |cons b e=>
   simp only[ZJ,YE]at a
   rw[ain (af F Zs) (z b Zs) a.1,ah (λc aA=>af c (by simp[aA])) (λc aA=>z c (by simp[aA])) a.2]
def NK(s:List Nat):(gj s).toList=s.map UInt8.ofNat:=by
 rw[ByteArray.toList_eq];simp[gj]
def Xr{x e:List Nat}(af:∀F∈x,F<256)(z:∀F∈e,F<256):((gj x).toList==(gj e).toList)=m4 x e:=by
 rw[Z9,Mv,Y3,NK,NK]
 exact⟨azA af z,λa=>by rw[a]⟩
def ajB:∀{x e:List Nat},(∀F∈x,F<256)->(∀F∈e,F<256)->Op.bytesLess (x.map UInt8.ofNat) (e.map UInt8.ofNat)=Db x e
 |[],[],_,_=>rfl
 |[],_::_,_,_=>rfl
 |_::_,[],_,_=>rfl
 |F::x,b::e,af,z=>by
  have aE:=af F Zs
  have aj:=z b Zs
  have ah:=ajB (λc aA=>af c (Zt _ aA)) (λc aA=>z c (Zt _ aA))
  simp only[ZJ,Op.bytesLess,Db,ah]
  have bC:decide (UInt8.ofNat F<UInt8.ofNat b)=Nat.blt F b:=by
   rw[Z9,Zh,UInt8.lt_iff_toNat_lt]
   simp[Nat.blt,YH aE,YH aj];omega
  have cu:(UInt8.ofNat F==UInt8.ofNat b)=Nat.beq F b:=by
   rw[Z9,Y3]
   exact⟨λa=>by rw[ain aE aj a];exact zf _,λa=>by rw[Zn a]⟩
  rw[bC,cu]
def QF(Y:dq C U ae h j bx w){b T:Nat}(aj:ae b)(a:C4 C h b T=true):
 ∃c n st ct ty bO aG,W C h b=some (.cells c n st)/\T<n/\w.heap[(U b).cO]? =some (.cells ct ty (bO,aG))/\G4 st n (U b) ct.size bO aG/\(U b).ek+n<=ct.size/\st≠ .kJ:=by
 unfold C4 at a
 split at a
 ·simp at a
 ·rename_i c n st kU bi
  obtain⟨ct,ty,bO,aG,H,M,al,_⟩:=Y.obj b _ bi aj
  exact⟨c,n,st,ct,ty,bO,aG,bi,l6 (by simpa using a),H,M,al,λD=>(by subst D;first|exact kU _ bi|exact kU _ rfl|exact kU rfl|exact kU bi|simp_all)⟩
 ·simp at a
def aiy{b T:Nat}(a:Jc C h b T=true):C4 C h b T=true/\C.a8<=b/\∃c n,W C h b=some (.cells c n .own):=by
 unfold Jc at a
 unfold C4
 split at a
 ·rename_i c n bi
  simp only[bi,Zq]at a ⊢
  exact⟨a.2,j2 a.1,c,n,rfl⟩
 ·simp at a
def W8{r:Nat}{ct:Array Value}{ty:TypeId}{f:Nat×Nat}(a:w.heap[r]? =some (.cells ct ty f)):w.shape? r=some (ty,ct.size):=by
 simp[World.shape?,a]
def ajj{P:Program}{p ak:Nat}{x e:Nat}{bf cf:Array Value}{t1 eK:TypeId}{en H cZ M:Nat}(dn:p≠ak)
 (bC:w.heap[p]? =some (.cells bf t1 (en,H)))(cu:w.heap[ak]? =some (.cells cf eK (cZ,M)))(eO:H<=en)(im:x<bf.size)(ks:e<cf.size)(fp:M<=cZ\/cf.size<=cZ):
 (sameAddr ⟨p,x,none⟩ ⟨ak,e,none⟩).run P w= .ok false w/\(sameAddr ⟨ak,e,none⟩ ⟨p,x,none⟩).run P w= .ok false w:=by
 have bP:w.frozen? ⟨p,x,none⟩=false:=by simp[World.frozen?,bC];omega
 have b2:w.frozen? ⟨ak,e,none⟩=false:=by simp[World.frozen?,cu];omega
 have cI:w.frozen? ⟨p,bf.size,none⟩=false:=by simp[World.frozen?,bC];omega
 have i2:=W8 bC
 have jF:=W8 cu
 have g5:bf.size≠0:=Zo
 have gx:cf.size≠0:=Zo
 have Po:ak≠p:=λD=>dn D.symm
 constructor
 ·simp[sameAddr,dn,bP,b2,cI,noView,viewAt,i2,jF,mayBeOne,stringish,gx]
 ·simp[sameAddr,Po,bP,b2,cI,noView,viewAt,i2,jF,mayBeOne,stringish,g5,gx]
def aBJ(Y:dq C U ae h j bx w){b T dD o':Nat}{r:Bool}(aj:ae b)(kh:ae dD)(a:ptrEq C h b T dD o'=some r):
 (sameAddr ⟨(U b).cO,(U b).ek+T,none⟩ ⟨(U dD).cO,(U dD).ek+o',none⟩).run C.P w= .ok r w:=by
 unfold ptrEq at a
 rw[ia]at a
 split at a
 ·rename_i D
  subst D
  simp at a;subst a
  simp only[sameAddr,YI,ZG,Sem.run_pure]
  congr 1
  rw[Z9,Y3]
  constructor
  ·intro a;simp at a;rw[a];exact zf _
  ·intro a;rw[Zn a]
 ·rename_i dn
  simp only[fb,Y5,Zq,Zf]at a
  obtain⟨a,rfl⟩:=a
  rcases a with ⟨H,M⟩|⟨H,M⟩
  ·obtain⟨al,aB,c,n,bw⟩:=aiy H
   obtain⟨c5,aV,Xm,bf,t1,en,w3,bC,im,JC,g5,bR,_⟩:=QF Y aj al
   obtain⟨dC,aX,aDn,cf,eK,cZ,DA,cu,ks,JD,gx,cm,WE⟩:=QF Y kh M
   have c8:Xm= .own:=by rw[bw]at bC;cases bC;rfl
   subst c8
   have Uh:(U b).cO≠(U dD).cO:=by
    intro D
    rcases(Y.sep b dD _ _ bC cu aj kh dn aB D).1 with ⟨_,_,_,_,ak,_⟩|⟨_,_,_,_,_,ak,_⟩|⟨_,_,_,_,_,_,ak,_⟩<;>cases ak
   exact(ajj Uh JC JD (ze g5.symm) Zo Zo (gx.free WE)).1
  ·obtain⟨al,aB,c,n,bw⟩:=aiy H
   obtain⟨c5,aV,Xm,bf,t1,en,w3,bC,im,JC,g5,bR,_⟩:=QF Y kh al
   obtain⟨dC,aX,aDn,cf,eK,cZ,DA,cu,ks,JD,gx,cm,WE⟩:=QF Y aj M
   have c8:Xm= .own:=by rw[bw]at bC;cases bC;rfl
   subst c8
   have Uh:(U dD).cO≠(U b).cO:=by
    intro D
    rcases(Y.sep dD b _ _ bC cu kh aj (λak=>dn ak.symm) aB D).1 with ⟨_,_,_,_,ak,_⟩|⟨_,_,_,_,_,ak,_⟩|⟨_,_,_,_,_,_,ak,_⟩<;>cases ak
   exact(ajj Uh JC JD (ze g5.symm) Zo Zo (gx.free WE)).2
def ao7{eq:Nat->E->E->Option Bool}{d:Nat}(fq:∀t x e r,co ae x->co ae e->eq t x e=some r->(Op.equalIn d t (aT U x) (aT U e)).run C.P w= .ok r w):
 ∀(jN:List Field) (ck nb:List E) (r:Bool),ey ae ck->ey ae nb->yV C eq jN ck nb=some r->(Op.eqFields d (b3 U ck).toArray (b3 U nb).toArray jN).run C.P w= .ok r w:=by
 intro jN
 induction jN with
 |nil=>intro ck nb r _ _ a;simp[yV]at a;subst a;simp[Op.eqFields]
 |cons f jN ah=>
  intro ck nb r af z a
  simp only[yV,Ho,beq_eq_false_iff_ne]at a
  obtain⟨aF,a⟩:=a
  split at a
  ·rename_i F b aE aj
   obtain⟨bf,cf⟩:=J2 (U:=U) (w:=w) af aE
   obtain⟨bQ,cl⟩:=J2 (U:=U) (w:=w) z aj
   split at a
   ·rename_i D
    simp only[Op.eqFields,aF,ne_eq,ZI,ZG,Sem.run_bind,bf,bQ,fq _ _ _ _ cf cl D,Result.andThen_ok,Yw,Zw,ZB]
    exact ah ck nb r af z a
   ·rename_i D
    simp at a;subst a
    simp only[Op.eqFields,aF,ne_eq,ZI,ZG,Sem.run_bind,bf,bQ,fq _ _ _ _ cf cl D,Result.andThen_ok,Yx,Sem.run_pure]
   ·simp at a
  ·simp at a
def R3(Y:dq C U ae h j bx w):∀(d l8:Nat) (t:Nat) (x e:E) (r:Bool),d<=l8->co ae x->co ae e->jg C h d t x e=some r->
 (Op.equalIn l8 t (aT U x) (aT U e)).run C.P w= .ok r w:=by
 intro d
 induction d with
 |zero=>intro l8 t x e r _ _ _ a;simp[jg]at a
 |succ d ah=>
  intro l8 t x e r aJ fU v8 a
  obtain⟨l8,rfl⟩:∃D,l8=D+1:=⟨l8-1,Zo⟩
  unfold jg at a
  split at a
  ·rename_i bc;simp at a;subst a;simp[Op.equalIn,run_underlying bc,aT]
  ·rename_i bc;simp at a;obtain⟨rfl,rfl⟩:=a;simp[Op.equalIn,run_underlying bc,aT];rfl
  ·rename_i F b bc
   simp at a;subst a
   rw[aT,aT,run_equalIn_string w l8 t _ _ bc,Xr fU v8]
  ·rename_i bc;simp at a;subst a;simp[Op.equalIn,run_underlying bc,aT]
  ·rename_i bc;simp at a;subst a;simp[Op.equalIn,run_underlying bc,aT]
  ·rename_i bc;simp at a;subst a;simp[Op.equalIn,run_underlying bc,aT]
  ·rename_i D b T dD o' bc
   split at a
   ·rename_i s aC
    rw[ia]at a
    split at a
    ·simp at a
    ·rename_i PG
     have:=aBJ Y fU v8 a
     simp[Op.equalIn,run_underlying bc,aT,ql aC,PG,this]
   ·simp at a
  ·rename_i bc;simp at a;subst a;simp[Op.equalIn,run_underlying bc,aT]
  ·rename_i bc;simp at a;subst a;simp[Op.equalIn,run_underlying bc,aT]
  ·rename_i bc;simp at a;subst a;simp[Op.equalIn,run_underlying bc,aT]
  ·rename_i M0 yD ty yE bc
   rw[ia]at a
   split at a
   ·rename_i D
    subst D
    split at a
    ·rename_i i aG
     simp only[fb]at a
     obtain⟨aA,a⟩:=a
     have:=ah l8 M0 yD yE r Zo fU v8 a
     simp[Op.equalIn,run_underlying bc,aT,typeInfo,aG,aA,this]
    ·simp at a
   ·rename_i D
    simp at a;subst a
    simp[Op.equalIn,run_underlying bc,aT,D]
  all_goals first
   |(rename_i bc;simp at a;subst a;simp[Op.equalIn,run_underlying bc,aT];done)
   |skip
  ·rename_i kB ck nb bc
   simp only[Ho]at a
   obtain⟨ay,a⟩:=a
   have b4:C.P.fieldsOf t=kB:=by simp[Program.fieldsOf,bc]
   rw[aT,aT,run_equalIn_struct w l8 t _ _ (by rw[b4];exact bc) ay,b4]
   exact ao7 (λt x e r fU v8 a=>ah l8 t x e r Zo fU v8 a) _ _ _ _ fU v8 a
  ·simp at a
end
section
variable{C:aN}{U:dd}{ae:Nat->Prop}{h:S ag}{j bx:Nat}{w:World}
def binOp_eql{t:TypeId}{X eV:Value}(H:∀u F fh b,¬(X= .int u F/\eV= .int fh b))(M:∀F b,¬(X= .string F/\eV= .string b))
 (al:∀u F,X≠ .float u F)(aB:∀u F b,X≠ .complex u F b):binOp .eql t X eV=(do pure (.bool (<-Op.equal t X eV)))/\binOp .neq t X eV=(do pure (.bool (!(<-Op.equal t X eV)))):=by
 constructor
 ·unfold binOp
  split
  all_goals first
   |rfl
   |exact absurd ⟨rfl,rfl⟩ (H _ _ _ _)
   |exact absurd ⟨rfl,rfl⟩ (M _ _)
   |exact absurd rfl (al _ _)
   |exact absurd rfl (aB _ _ _)
   |simp_all
 ·unfold binOp
  split
  all_goals first
   |rfl
   |exact absurd ⟨rfl,rfl⟩ (H _ _ _ _)
   |exact absurd ⟨rfl,rfl⟩ (M _ _)
   |exact absurd rfl (al _ _)
   |exact absurd rfl (aB _ _ _)
   |simp_all
def acY(U:dd)(v:E):(∀u F,aT U v≠ .float u F)/\∀u F b,aT U v≠ .complex u F b:=by
 cases v<;>simp[aT]
def arJ{m:Nat}{t:TypeId}{i1:Array (String×TypeId)}(bc:C.P.underlying t=some (.interface i1))(bA:i1.isEmpty=true):(Op.eqGuardIn (m+1) t .nilIface .nilIface).run C.P w= .ok false w:=by
 simp[Op.eqGuardIn,run_underlying bc,bA]
def arK{op:BinOp}{t:TypeId}{x e:Operand}{X eV:Value}(a:(rP x||rP e)=true)(M:∀c d,¬(X= .agg c/\eV= .agg d)):
 (eqGuard op t x e X eV).run C.P w= .ok () w:=by
 cases op<;>first|rfl|(cases x<;>cases e<;>first|(simp[rP]at a;done)|(cases X<;>cases eV<;>first|rfl|exact absurd ⟨rfl,rfl⟩ (M _ _)))
def arL{op:BinOp}{t:TypeId}{x e:Operand}{i1:Array (String×TypeId)}(bc:C.P.underlying t=some (.interface i1))(bA:i1.isEmpty=true):
 (eqGuard op t x e .nilIface .nilIface).run C.P w= .ok () w:=by
 have key:=arJ (C:=C) (w:=w) (m:=9999) bc bA
 have H:Op.maxDepth=9999+1:=rfl
 cases op<;>first|rfl|(cases x<;>cases e<;>first|rfl|(simp[eqGuard,H,key];done))
def arM{op:BinOp}{t:TypeId}{x e:Operand}(a:(rP x||rP e||(match C.P.underlying t with|some (.interface i1)=>i1.isEmpty|_=>false))=true):
 (eqGuard op t x e .nilIface .nilIface).run C.P w= .ok () w:=by
 by_cases aA:(rP x||rP e)=true
 ·exact arK aA Zs
 ·have aA:(rP x||rP e)=false:=by simpa using aA
  rw[aA,Bool.false_or]at a
  split at a
  ·rename_i i1 bc
   exact arL bc a
  ·simp at a
def arN{op:BinOp}{t:TypeId}{x e:Operand}{X eV:Value}(H:¬(X= .nilIface/\eV= .nilIface))(M:∀c d,¬(X= .agg c/\eV= .agg d)):
 (eqGuard op t x e X eV).run C.P w= .ok () w:=by
 cases op<;>first|rfl|(cases X<;>cases eV<;>first|rfl|exact absurd ⟨rfl,rfl⟩ H|exact absurd ⟨rfl,rfl⟩ (M _ _))
def Oa{op:BinOp}{t:TypeId}{x e:Operand}{F b:E}(a:Hx C t (rP x||rP e) F b=true):
 (eqGuard op t x e (aT U F) (aT U b)).run C.P w= .ok () w:=by
 unfold Hx at a
 split at a
 ·exact arM a
 ·simp only[aT]
  exact run_eqGuard_agg w op t x e _ _ (by simpa using a)
 ·rename_i aV aX
  refine arN ?_ ?_
  ·rintro⟨H,M⟩
   cases F<;>simp[aT]at H
   cases b<;>simp[aT]at M
   exact aV rfl rfl
  ·rintro c d ⟨H,M⟩
   cases F<;>simp[aT]at H
   cases b<;>simp[aT]at M
   exact aX _ _ rfl rfl
def apk{op:BinOp}{x e:List Nat}{v:E}(af:∀F∈x,F<256)(z:∀F∈e,F<256)(a:BT op x e=some v):
 (Op.stringOp op (gj x) (gj e)).run C.P w= .ok (aT U v) w/\co ae v:=by
 have bC:=Xr af z
 have cu:Op.bytesLess (gj x).toList (gj e).toList=Db x e:=by rw[NK,NK];exact ajB af z
 cases op<;>simp only[BT,xq,fb,Zf]at a<;>
  first
  |(
    obtain⟨H,rfl⟩:=a
    constructor
    ·have aC:(gj x).size=x.length:=by simp[gj,ByteArray.size]
     have t6:(gj e).size=e.length:=by simp[gj,ByteArray.size]
     have gl:=j2 H
     simp only[Op.stringOp,aC,t6]
     rw[Zg (by simp[IntKind.max,IntKind.signed,IntKind.bits];omega)]
     simp only[Sem.run_pure,aT]
     congr 2
     apply ByteArray.ext
     simp[gj]
    ·simp only[co]
     intro bE cx
     rcases Zz.1 cx with a|a
     ·exact af bE a
     ·exact z bE a)
  |(subst a;exact⟨by simp only[Op.stringOp,bC,cu,Sem.run_pure,aT],trivial⟩)
  |(simp at a)
def ayG(Y:dq C U ae h j bx w){op:BinOp}{t:Nat}{x e:Operand}{ax:Operand->Value}{eF:Operand->Option E}{v:E}(cK:jY U ae ax eF [x,e])
 (a:P5 C op t x e h eF=some v):(do eqGuard op t x e (ax x) (ax e);binOp op t (ax x) (ax e):Sem Value).run C.P w= .ok (aT U v) w/\co ae v:=by
 unfold P5 at a
 split at a
 ·rename_i F b aE aj
  obtain⟨arq,hm⟩:=cK x Zs F aE
  obtain⟨hu,pS⟩:=cK e Zs b aj
  rw[arq,hu]
  unfold db at a
  split at a
  ·rename_i u i fh V
   obtain⟨H,M,_⟩:=ab3 (C:=C) (U:=U) (ae:=ae) (w:=w) t a
   refine⟨?_,M⟩
   rw[Sem.run_bind,Oa (by simp[Hx])]
   exact H
  ·rename_i s e1
   obtain⟨H,M⟩:=apk (C:=C) (U:=U) (ae:=ae) (w:=w) hm pS a
   refine⟨?_,M⟩
   rw[Sem.run_bind,Oa (by simp[Hx])]
   simp only[Result.andThen_ok,aT,binOp]
   exact H
  ·rename_i az9 mM
   simp only[fb]at a
   obtain⟨f6,a⟩:=a
   have bM:∀r,jg C h 50 t F b=some r->(Op.equal t (aT U F) (aT U b)).run C.P w= .ok r w:=λr m1=>R3 Y 50 _ t F b r Zd hm pS m1
   have nX:∀u bE fh Nc,¬(aT U F= .int u bE/\aT U b= .int fh Nc):=by
    intro u bE fh Nc ⟨H,M⟩
    cases F<;>simp[aT]at H
    cases b<;>simp[aT]at M
    exact az9 _ _ _ _ rfl rfl
   have kC:∀bE Nc,¬(aT U F= .string bE/\aT U b= .string Nc):=by
    intro bE Nc ⟨H,M⟩
    cases F<;>simp[aT]at H
    cases b<;>simp[aT]at M
    exact mM _ _ rfl rfl
   obtain⟨cE,cA⟩:=binOp_eql (t:=t) nX kC (acY U F).1 (acY U F).2
   rw[Sem.run_bind,Oa f6]
   split at a
   ·split at a
    ·rename_i r m1
     simp at a;subst a
     exact⟨by simp[cE,bM r m1,aT],trivial⟩
    ·simp at a
   ·split at a
    ·rename_i r m1
     simp at a;subst a
     exact⟨by simp[cA,bM r m1,aT],trivial⟩
    ·simp at a
   ·simp at a
 ·simp at a
end
section
variable{C:aN}{U:dd}{ae:Nat->Prop}{h:S ag}{j bx:Nat}{w:World}
def ao6{s d:Nat}{x v:E}(af:co ae x)(a:R2 C s d x=some v):(convert s d (aT U x)).run C.P w= .ok (aT U v) w/\co ae v:=by
 unfold R2 at a
 split at a
 ·rename_i nH u ej n Fa LU
  simp at a;subst a
  simp[convert,run_underlying Fa,run_underlying LU,Conv.intToInt,aT,co]
 ·rename_i nH s Fa LU
  simp at a;subst a
  refine⟨?_,af⟩
  simp[convert,run_underlying Fa,run_underlying LU,aT]
 ·simp at a
def aqh:∀{k:List E}{s:List Nat},y6 k=some s->∃mM:List Nat,k=mM.map (λn=>E.int .u8 (Int.ofNat n))/\s=mM.map (·%256):=by
 intro k
 induction k with
 |nil=>intro s a;simp[y6]at a;subst a;exact⟨[],rfl,rfl⟩
 |cons F k ah=>
  intro s a
  unfold y6 at a
  split at a
  ·rename_i gL;simp at gL
  ·rename_i n bS fq
   simp only[YE]at fq
   obtain⟨rfl,rfl⟩:=fq
   split at a
   ·rename_i r Y
    simp at a;subst a
    obtain⟨mM,H,M⟩:=ah Y
    exact⟨n::mM,by simp[H],by simp[M]⟩
   ·simp at a
  ·simp at a
def asx(mM:List Nat):∀r:ByteArray,(mM.map Int.ofNat).foldl (λr (n:Int)=>r.push (UInt8.ofNat n.toNat)) r=⟨r.data++(mM.map UInt8.ofNat).toArray⟩:=by
 induction mM with
 |nil=>intro r;simp
 |cons n mM ah=>
  intro r
  simp only[ZJ,ZH,ah]
  congr 1
  apply Y2
  simp[ByteArray.push]
def Hm(Y:dq C U ae h j bx w){b T n:Nat}{k:List E}(aj:ae b)(a:nT C h b T n=some k):
 (loadCells ⟨(U b).cO,(U b).ek+T,none⟩ n).run C.P w= .ok (b3 U k).toArray w/\ey ae k:=by
 unfold nT at a
 split at a
 ·rename_i c aA;exact NQ Y aj aA a
 ·simp only[fb,Zf]at a
  obtain⟨H,rfl⟩:=a
  have:n=0:=Zn H
  subst this
  refine⟨?_,trivial⟩
  have az:=run_loadCells_list (P:=C.P) w ⟨(U b).cO,(U b).ek+T,none⟩ [] (λV v bD=>by simp at bD)
  simpa[b3]using az
def ajL(Y:dq C U ae h j bx w){b T n cap:Nat}{k:List E}{s:List Nat}(aj:ae b)(a:nT C h b T n=some k)(aC:y6 k=some s):
 (Conv.bytesToString (.slice (some ⟨(U b).cO,(U b).ek+T,none⟩) n cap)).run C.P w= .ok (aT U (.str s)) w/\co ae (.str s):=by
 obtain⟨H,_⟩:=Hm Y aj a
 obtain⟨mM,rfl,rfl⟩:=aqh aC
 have M:=run_bytesToString (P:=C.P) w ⟨(U b).cO,(U b).ek+T,none⟩ n cap (mM.map Int.ofNat) (by
  rw[H];congr 2
  rw[qG,Yt,Yt];rfl)
 constructor
 ·rw[M,asx]
  congr 2
  simp only[gj,Yt]
  congr 1
  apply Y2
  simp
  intro F _
  exact UInt8.toNat_inj.1 Zs
 ·simp only[co]
  intro x af
  obtain⟨e,_,rfl⟩:=ZE.1 af
  exact zn _ Zd
def apl(Y:dq C U ae h j bx w){x v:E}(af:co ae x)(a:Ha C h x=some v):(Conv.bytesToString (aT U x)).run C.P w= .ok (aT U v) w/\co ae v/\∃F k c,aT U x= .slice F k c:=by
 unfold Ha at a
 split at a
 ·simp at a;subst a;exact⟨rfl,by simp[co],_,_,_,rfl⟩
 ·split at a
  ·rename_i k az
   split at a
   ·rename_i s aC
    simp at a;subst a
    obtain⟨H,M⟩:=ajL Y af az aC
    exact⟨H,M,_,_,_,rfl⟩
   ·simp at a
  ·simp at a
 ·split at a
  ·rename_i k az
   split at a
   ·rename_i s aC
    simp at a;subst a
    obtain⟨H,M⟩:=ajL Y af az aC
    exact⟨H,M,_,_,_,rfl⟩
   ·simp at a
  ·simp at a
 ·simp at a
def ayH(Y:dq C U ae h j bx w){s d:Nat}{x:Operand}{ax:Operand->Value}{eF:Operand->Option E}{v:E}(cK:jY U ae ax eF [x])
 (a:Mc C s d x h eF=some v):(convert s d (ax x)).run C.P w= .ok (aT U v) w/\co ae v:=by
 unfold Mc at a
 split at a
 ·rename_i F aE
  obtain⟨D,g⟩:=cK x Zs F aE
  rw[D]
  split at a
  ·rename_i ac bc
   simp at a;subst a
   exact ao6 g bc
  ·split at a
   ·rename_i uR Fa LU
    split at a
    ·rename_i bA
     obtain⟨H,M,fB,k,c,al⟩:=apl Y g a
     refine⟨?_,M⟩
     rw[al]at H ⊢
     rw[run_convert_bytes_string w s d uR fB k c Fa bA LU]
     exact H
    ·simp at a
   ·simp at a
 ·simp at a
def FA{T:Option E}{m d r:Nat}(a:qd T m d=some r):(T=none/\r=d)\/∃u,T=some (.int u (Int.ofNat r))/\r<=m:=by
 unfold qd at a
 split at a
 ·rename_i v
  split at a
  ·rename_i n aF
   simp only[fb,Zf]at a
   obtain⟨H,rfl⟩:=a
   obtain⟨u,rfl⟩:=FI aF
   exact .inr ⟨u,rfl,j2 H⟩
  ·simp at a
 ·simp at a;exact .inl ⟨rfl,a.symm⟩
def run_sliceBound{P:Program}{u:IntKind}{n e:Nat}{code:BoundsCode}(a:n<=e):(Instr.sliceBound (.int u (Int.ofNat n)) e code).run P w= .ok n w:=by
 have H:(0:Int)<=Int.ofNat n/\Int.ofNat n<=(e:Int):=⟨Int.natCast_nonneg n,Int.ofNat_le.2 a⟩
 simp only[Instr.sliceBound,asIntOf,Sem.run_bind,Sem.run_pure,Result.andThen_ok]
 rw[Zp H]
 rfl
def Kc{IG:Bool}{len cap NN:Nat}{bO aG hy:Option E}{k a m:Nat}(aA:cap<=NN)(aj:mR len cap bO aG hy=some (k,a,m)):
 (Instr.sliceBounds IG len NN (bO.map (aT U)) (aG.map (aT U)) (hy.map (aT U))).run C.P w= .ok (k,a,if hy.isSome then m else NN) w/\k<=a/\(hy=none->m=cap)/\m<=cap/\(a<=m\/a=len):=by
 unfold mR at aj
 split at aj
 ·simp at aj
 ·rename_i gg bn
  split at aj
  ·simp at aj
  ·rename_i cF gL
   split at aj
   ·simp at aj
   ·rename_i bS az
    simp at aj
    obtain⟨rfl,rfl,rfl⟩:=aj
    have Ls:bS<=cF:=by
     rcases FA az with ⟨_,rfl⟩|⟨u,_,gl⟩
     ·exact zd _
     ·exact gl
    cases hy with
    |none=>
     have tW:gg=cap:=by simpa[qd]using bn.symm
     subst tW
     have O7:qd aG gg len=some cF:=by cases aG<;>exact gL
     refine⟨?_,Ls,λ_=>rfl,Zj _,(FA O7).elim (λa=> .inr a.2) (λ⟨_,_,a⟩=> .inl a)⟩
     rcases FA O7 with ⟨rfl,rfl⟩|⟨u,rfl,gl⟩<;>rcases FA az with ⟨rfl,rfl⟩|⟨cm,rfl,fN⟩
     ·simp[Instr.sliceBounds]
     ·simp only[Instr.sliceBounds,Y6,ZS,aT,Sem.run_bind,Sem.run_pure,Result.andThen_ok,run_sliceBound fN,Z3,Zw,ZB]
     ·simp only[Instr.sliceBounds,Y6,ZS,aT,Sem.run_bind,Sem.run_pure,Result.andThen_ok,run_sliceBound (ZD gl aA),Z3,Zw,ZB]
     ·simp only[Instr.sliceBounds,Y6,ZS,aT,Sem.run_bind,Sem.run_pure,Result.andThen_ok,run_sliceBound (ZD gl aA),run_sliceBound fN,Z3,Zw,ZB]
    |some azP=>
     rcases FA bn with ⟨aK,_⟩|⟨u,aK,gl⟩
     ·cases aK
     ·cases aK
      cases aG with
      |none=>simp at gL
      |some bD=>
       have O7:qd (some bD) gg len=some cF:=gL
       rcases FA O7 with ⟨aK,_⟩|⟨fh,aK,Lr⟩
       ·cases aK
       ·cases aK
        refine⟨?_,Ls,(λa=>by cases a),gl, .inl Lr⟩
        rcases FA az with ⟨rfl,rfl⟩|⟨cm,rfl,fN⟩
        ·simp only[Instr.sliceBounds,Y6,ZS,aT,Sem.run_bind,Sem.run_pure,Result.andThen_ok,run_sliceBound (ZD gl aA),run_sliceBound Lr,Ya,ZG]
        ·simp only[Instr.sliceBounds,ZS,aT,Sem.run_bind,Sem.run_pure,Result.andThen_ok,run_sliceBound (ZD gl aA),run_sliceBound Lr,run_sliceBound fN,Ya,ZG]
end
section
variable{C:aN}{U:dd}{ae:Nat->Prop}{h:S ag}{j bx:Nat}{w:World}
def aqF(m k T bd:Nat):b0 (Nat.beq m k) T (T+k*bd)=if m=k then T else T+k*bd:=ia _ _ _ _
def ajp(Y:dq C U ae h j bx w){b n:Nat}(aj:ae b)(a:yu C h b=some n):n<=(U b).room:=by
 unfold yu at a
 split at a
 ·rename_i c m eS bi
  simp at a;subst a
  obtain⟨ct,ty,bO,aG,_,M,_,_⟩:=Y.obj b _ bi aj
  exact M.2.1
 ·rename_i c m bi
  simp at a;subst a
  obtain⟨ct,ty,bO,aG,_,M,_,_⟩:=Y.obj b _ bi aj
  exact M.2.1
 ·simp at a
def Xj{b T k a m bd:Nat}:Value.slice (some (if m=k then(⟨(U b).cO,(U b).ek+T,none⟩:Addr)else(⟨(U b).cO,(U b).ek+T,none⟩:Addr).add (k*bd))) (a-k) (m-k)
 =aT U (.slice b (b0 (Nat.beq m k) T (T+k*bd)) (a-k) (m-k)):=by
 rw[aqF]
 simp only[aT,sn]
 split
 ·rfl
 ·rw[ZR]
def apj(Y:dq C U ae h j bx w){t:Nat}{x v:E}{bO aG hy:Option E}(af:co ae x)(a:NE C h t x bO aG hy=some v):
 (Instr.sliceAt t (aT U x) (bO.map (aT U)) (aG.map (aT U)) (hy.map (aT U))).run C.P w= .ok (aT U v) w/\co ae v:=by
 unfold NE at a
 split at a
 ·rename_i s bc
  cases hy with
  |some _=>simp at a
  |none=>
   simp only at a
   split at a
   ·rename_i k cF m aj
    simp at a;subst a
    obtain⟨H,M,_⟩:=Kc (C:=C) (U:=U) (w:=w) (IG:=false) (Zj _) aj
    have eA:(gj s).size=s.length:=by simp[gj,ByteArray.size]
    constructor
    ·simp only[Y6,Z3,Zw,ZB]at H
     simp[Instr.sliceAt,run_underlying bc,Instr.slice,aT,eA,H]
     apply ByteArray.ext
     rw[ByteArray.data_extract]
     apply Y2
     simp[gj,List.map_take,List.map_drop,List.take_drop]
    ·simp only[co]at af ⊢
     intro bE cx
     exact af bE (zb (zc cx))
   ·simp at a
 ·rename_i ep b T len cap bc
  split at a
  ·rename_i k cF m bd aj eA
   simp at a;subst a
   obtain⟨H,M,al,_⟩:=Kc (C:=C) (U:=U) (w:=w) (IG:=true) (Zj cap) aj
   have bn:(if hy.isSome=true then m else cap)=m:=by cases hy with
    |none=>simp[al rfl]
    |some _=>rfl
   rw[bn]at H
   refine⟨?_,af⟩
   have:=Xj (U:=U) (b:=b) (T:=T) (k:=k) (a:=cF) (m:=m) (bd:=bd)
   simp only[Instr.sliceAt,Sem.run_bind,run_underlying bc,Result.andThen_ok,Instr.slice,aT,H,ql eA,Sem.run_pure]
   rw[<-aT, <-this]
   split<;>rfl
  ·simp at a
 ·rename_i ep bc
  split at a
  ·rename_i r bd aj eA
   obtain⟨k,cF,m⟩:=r
   simp at a;subst a
   obtain⟨H,M,al,aB,bw⟩:=Kc (C:=C) (U:=U) (w:=w) (IG:=true) (Zj 0) aj
   have bn:m=0:=Zo
   have gL:cF=0:=Zo
   have az:k=0:=Zo
   subst bn;subst gL;subst az
   refine⟨?_,trivial⟩
   have uZ:(Instr.sliceBounds true 0 0 (bO.map (aT U)) (aG.map (aT U)) (hy.map (aT U))).run C.P w= .ok (0,0,0) w:=by rw[H];split<;>rfl
   simp[Instr.sliceAt,run_underlying bc,Instr.slice,aT,uZ,ql eA]
  ·simp at a
 ·rename_i ep b T len bd bc
  split at a
  ·rename_i yw n eA aF
   simp only[fb,Zq]at a
   obtain⟨⟨lu,p3⟩,a⟩:=a
   have lu:bd=yw:=Zn lu
   subst lu
   have p3:0<bd:=l6 p3
   have awM:=ajp Y af aF
   have nn:(n-T)/bd<=((U b).room-T)/bd:=Nat.div_le_div_right Zo
   split at a
   ·rename_i k cF m aj
    obtain⟨H,M,al,_⟩:=Kc (C:=C) (U:=U) (w:=w) (IG:=true) nn aj
    cases hy with
    |some azP=>
     simp at a;subst a
     refine⟨?_,af⟩
     have:=Xj (U:=U) (b:=b) (T:=T) (k:=k) (a:=cF) (m:=m) (bd:=bd)
     simp only[Ya,ZG]at H
     simp only[Instr.sliceAt,Sem.run_bind,run_underlying bc,Result.andThen_ok,Instr.slice,aT,H,ql eA,Sem.run_pure]
     rw[<-aT, <-this]
     split<;>rfl
    |none=>
     simp only[fb,Zf,Y5]at a
     obtain⟨az,rfl⟩:=a
     refine⟨?_,af⟩
     simp only[Z3,Zw,ZB]at H
     simp only[Instr.sliceAt,Sem.run_bind,run_underlying bc,Result.andThen_ok,Instr.slice,aT,H,ql eA,Sem.run_pure]
     have cu:((U b).room-(T+k*bd))/bd=((U b).room-T)/bd-k:=by
      rw[<-Nat.sub_sub,zv k bd,Nat.sub_mul_div]
     rw[cu]
     congr 1
     congr 1
     rcases az with az|az
     ·have az:=l6 az
      rw[Zg Zo,ZS,sn,ZR]
     ·have az:k=0:=Zn az
      subst az
      split<;>simp[sn]
   ·simp at a
  ·simp at a
 ·rename_i n ep b T bc
  split at a
  ·rename_i k cF m bd aj eA
   simp at a;subst a
   obtain⟨H,M,al,_⟩:=Kc (C:=C) (U:=U) (w:=w) (IG:=false) (Zj n) aj
   have bn:(if hy.isSome=true then m else n)=m:=by cases hy with
    |none=>simp[al rfl]
    |some _=>rfl
   rw[bn]at H
   refine⟨?_,af⟩
   have:=Xj (U:=U) (b:=b) (T:=T) (k:=k) (a:=cF) (m:=m) (bd:=bd)
   simp only[Instr.sliceAt,Sem.run_bind,run_underlying bc,Result.andThen_ok,Instr.sureAddr,aT,H,ql eA,Sem.run_pure]
   rw[<-aT, <-this]
  ·simp at a
 ·simp at a
end
section
variable{C:aN}{U:dd}{ae:Nat->Prop}{h:S ag}{j bx:Nat}{w:World}
def aCC{α:Type}{P:Program}(f:α->PUnit->Sem (ForInStep PUnit)):∀(k:List α),(∀F∈k,(f F ⟨⟩).run P w= .ok (.yield ⟨⟩) w)->(forIn k PUnit.unit f).run P w= .ok ⟨⟩ w:=by
 intro k
 induction k with
 |nil=>intro _;simp[Sem.run_pure]
 |cons F k ah=>intro a;simp[List.forIn_cons,a F Zs,ah λb aj=>a b (by simp[aj])]
def ab4{D:Bool}:∀(n m t:Nat) (v:E),n<=m->co ae v->nQ C n t v=true->(Instr.checkKey D m t (aT U v)).run C.P w= .ok () w:=by
 intro n
 induction n with
 |zero=>intro m t v _ _ a;simp[nQ]at a
 |succ n ah=>
  intro m t v bn bD a
  obtain⟨m,rfl⟩:∃u,m=u+1:=⟨m-1,Zo⟩
  unfold nQ at a
  split at a
  ·rename_i i1 d x bc
   split at a
   ·rename_i i aG
    simp only[Zq]at a
    have:=ah m d x Zo bD a.2
    simp[Instr.checkKey,run_underlying bc,aT,typeInfo,aG,a.1,this]
   ·simp at a
  ·rename_i bc;simp[Instr.checkKey,run_underlying bc,aT]
  ·simp at a
  ·rename_i kB cs bc
   simp only[Instr.checkKey,Sem.run_bind,run_underlying bc,Result.andThen_ok,aT]
   rw[<-Array.forIn_toList]
   refine(congrArg (λr=>Result.andThen r _) (aCC _ _ ?_)).trans rfl
   intro f b4
   have:=Ym.1 a f b4
   simp only[Y5,Y3]at this
   by_cases aF:f.name= "_"
   ·simp[aF]
   ·rcases this with H|H
    ·exact absurd H aF
    ·split at H
     ·rename_i p ay
      obtain⟨fF,h5⟩:=J2 (U:=U) (w:=w) bD ay
      simp[aF,fF,ah m f.type p Zo h5 H]
     ·simp at H
  ·simp at a
  ·simp at a
  ·rename_i d aV aX bz bc ci dr dX
   simp only[Instr.checkKey,Sem.run_bind,run_underlying bc,Result.andThen_ok]
   cases d<;>first
    |exact(aV _ rfl).elim
    |exact(aX _ rfl).elim
    |exact(bz _ _ rfl).elim
    |rfl
  ·simp at a
def acZ{x:E}{u:IntKind}{F:Int}(a:aT U x= .int u F):x= .int u F:=by
 cases x<;>simp[aT]at a
 obtain⟨rfl,rfl⟩:=a;rfl
def acX{x:E}{F:Bool}(a:aT U x= .bool F):x= .bool F:=by
 cases x<;>simp[aT]at a
 subst a;rfl
def ac0{x:E}{F:ByteArray}(a:aT U x= .string F):∃s,x= .str s/\F=gj s:=by
 cases x<;>simp[aT]at a
 exact⟨_,rfl,a.symm⟩
def acI(F b:ByteArray):(F==b)=(F.toList==b.toList):=by
 show(F.data==b.data)=_
 rw[Z9,Y3,Y3,ByteArray.toList_eq,ByteArray.toList_eq]
 exact⟨λa=>by rw[a],λa=>Array.toList_inj.1 a⟩
def ajk{d t:Nat}{fd:TypeDesc}{x e:E}{r ik:Bool}(bc:C.P.underlying t=some fd)(fU:co ae x)(v8:co ae e)
 (a:jg C h d t x e=some r)(cF:Instr.sameNow fd (aT U x) (aT U e)=some ik):r=ik:=by
 cases d with
 |zero=>simp[jg]at a
 |succ d=>
  unfold Instr.sameNow at cF
  split at cF
  ·rename_i ej u F fh b af z
   rw[acZ af,acZ z]at a
   simp[jg,bc]at a
   split at cF
   ·simp at cF;rw[<-cF, <-a.2];rfl
   ·simp at cF
  ·rename_i F b af z
   obtain⟨s,rfl,rfl⟩:=ac0 af
   obtain⟨e1,rfl,rfl⟩:=ac0 z
   simp[jg,bc]at a
   simp at cF
   rw[<-cF, <-a,acI,Xr fU v8]
  ·rename_i F b af z
   rw[acX af,acX z]at a
   simp[jg,bc]at a
   simp at cF;rw[<-cF, <-a]
  ·simp at cF
def vQ(U:dd)(r:Option (Nat×E)):Option (Nat×Value):=r.map λx=>(x.1,aT U x.2)
def asl{t:Nat}{fd:TypeDesc}{u:E}(bc:C.P.underlying t=some fd)(pa:co ae u):∀(b8:List (E×E×Nat)) (i:Nat) (r:Option (Nat×E)) (ik:Option (Nat×Value)),
 (∀D∈b8,co ae D.1/\co ae D.2.1)->findKey C h t u b8 i=some r->Instr.findNow fd (aT U u) (b8.map (mw U)) i=some ik->ik=vQ U r:=by
 intro b8
 induction b8 with
 |nil=>intro i r ik _ a cF;simp[findKey]at a;simp[Instr.findNow]at cF;subst a;subst cF;rfl
 |cons D b8 ah=>
  intro i r ik bV a cF
  obtain⟨fh,v,b⟩:=D
  simp only[findKey]at a
  simp only[ZJ,Instr.findNow,mw]at cF
  split at a
  ·rename_i bA
   simp at a;subst a
   split at cF
   ·simp at cF;rw[<-cF];rfl
   ·rename_i aC
    have:=ajk bc pa (bV (fh,v,b) (Zv ..)).1 bA aC
    simp at this
   ·simp at cF
  ·rename_i bA
   split at cF
   ·rename_i aC
    have:=ajk bc pa (bV (fh,v,b) (Zv ..)).1 bA aC
    simp at this
   ·exact ah _ _ _ (λD bA=>bV D (by simp[bA])) a cF
   ·simp at cF
  ·simp at a
def asi(Y:dq C U ae h j bx w){t:Nat}{u:E}(pa:co ae u):∀(b8:List (E×E×Nat)) (i:Nat) (r:Option (Nat×E)),
 (∀D∈b8,co ae D.1/\co ae D.2.1)->findKey C h t u b8 i=some r->(Instr.findAsking t (aT U u) (b8.map (mw U)) i).run C.P w= .ok (vQ U r) w:=by
 intro b8
 induction b8 with
 |nil=>intro i r _ a;simp[findKey]at a;subst a;simp[Instr.findAsking,vQ]
 |cons D b8 ah=>
  intro i r bV a
  obtain⟨fh,v,b⟩:=D
  simp only[findKey]at a
  have bn:20<=Op.maxDepth:=by decide
  split at a
  ·rename_i bA
   simp at a;subst a
   have:=R3 Y 20 _ t u fh true bn pa (bV (fh,v,b) (Zv ..)).1 bA
   simp[Instr.findAsking,Op.equal,mw,this,vQ]
  ·rename_i bA
   have:=R3 Y 20 _ t u fh false bn pa (bV (fh,v,b) (Zv ..)).1 bA
   simp[Instr.findAsking,Op.equal,mw,this]
   exact ah _ _ (λD bA=>bV D (by simp[bA])) a
  ·simp at a
def Td(Y:dq C U ae h j bx w){t:Nat}{fd:TypeDesc}{u:E}{b8:List (E×E×Nat)}{r:Option (Nat×E)}(bc:C.P.underlying t=some fd)(pa:co ae u)
 (bV:∀D∈b8,co ae D.1/\co ae D.2.1)(a:findKey C h t u b8 0=some r):(Instr.findKey t (aT U u) (b8.map (mw U))).run C.P w= .ok (vQ U r) w:=by
 simp only[Instr.findKey,Sem.run_bind,run_underlying bc,Result.andThen_ok]
 split
 ·rename_i ik cF
  rw[asl bc pa b8 0 r ik bV a cF];rfl
 ·exact asi Y pa b8 0 r bV a
def adR{t:Nat}{u:E}:∀(b8:List (E×E×Nat)) (i V:Nat) (v:E),findKey C h t u b8 i=some (some (V,v))->i<=V/\∃D,b8[V-i]? =some D/\D.2.1=v:=by
 intro b8
 induction b8 with
 |nil=>intro i V v a;simp[findKey]at a
 |cons D b8 ah=>
  intro i V v a
  obtain⟨fh,f9,b⟩:=D
  simp only[findKey]at a
  split at a
  ·simp at a
   obtain⟨rfl,rfl⟩:=a
   exact⟨Zj _,(fh,f9,b),Zs,rfl⟩
  ·obtain⟨H,D,M,al⟩:=ah _ _ _ a
   refine⟨Zo,D, ?_,al⟩
   rw[show V-i=(V-(i+1))+1 by omega]
   simpa using M
  ·simp at a
def ahl{t d:Nat}{u:E}(a:nQ C d t u=true):∃fd,C.P.underlying t=some fd:=by
 cases d with
 |zero=>simp[nQ]at a
 |succ d=>
  cases bc:C.P.underlying t with
  |none=>simp[nQ,bc]at a
  |some fd=>exact⟨fd,rfl⟩
def Mo(Y:dq C U ae h j bx w){r:Nat}{b8:List (E×E×Nat)}{ff:Nat}(aJ:ae r)(a:W C h r=some (.map b8 ff)):
 ∃ct,(getObj (U r).cO).run C.P w= .ok (.map ct ff) w/\w.heap[(U r).cO]? =some (.map ct ff)/\ct.toList=b8.map (mw U)/\∀D∈b8,co ae D.1/\co ae D.2.1:=by
 obtain⟨ct,H,M,al⟩:=Y.obj r _ a aJ
 exact⟨ct,MapKept.run_getObj_map H,H,M,al⟩
def ahN{t:Nat}{u:E}{F b:List (E×E)}(a:F.Perm b):∀r,qg C h t u F=some r->qg C h t u b=some r:=by
 induction a with
 |nil=>exact λ_ a=>a
 |cons x _ ah=>
  obtain⟨fh,v⟩:=x
  intro r a
  simp only[qg]at a ⊢
  split at a
  ·rename_i Y bA
   rw[ah _ Y,bA];simpa using a
  ·rename_i Y bA
   rw[ah _ Y,bA];simpa using a
  ·cases a
 |swap x e k=>
  obtain⟨ayE,yD⟩:=x
  obtain⟨ud,yE⟩:=e
  intro r a
  simp only[qg]at a ⊢
  cases az:qg C h t u k with
  |none=>simp[az]at a
  |some j9=>
   simp only[az]at a
   cases af:jg C h 20 t u ayE with
   |none=>rw[af]at a;cases j9<;>simp at a
   |some Kd=>
    cases z:jg C h 20 t u ud with
    |none=>
     rw[af,z]at a
     cases Kd<;>cases j9<;>simp at a
    |some aqg=>
     rw[af,z]at a
     cases Kd<;>cases aqg<;>cases j9<;>simp at a ⊢ <;>exact a
 |trans _ _ VI LZ=>exact λr a=>LZ r (VI r a)
def ahM{t:Nat}{u:E}:∀(b8:List (E×E×Nat)) (i:Nat) (r:Option E),qg C h t u (b8.map λD=>(D.1,D.2.1))=some r->∃ik,findKey C h t u b8 i=some ik/\ik.map (·.2)=r:=by
 intro b8
 induction b8 with
 |nil=>intro i r a;simp[qg]at a;subst a;exact⟨none,rfl,rfl⟩
 |cons D b8 ah=>
  obtain⟨fh,f9,b⟩:=D
  intro i r a
  simp only[ZJ,qg]at a
  simp only[findKey]
  split at a
  ·rename_i j9 Y bA
   simp at a;subst a
   rw[bA]
   exact ah (i+1) _ Y
  ·rename_i Y bA
   simp at a;subst a
   rw[bA]
   exact⟨some (i,f9),rfl,rfl⟩
  ·cases a
def ape(Y:dq C U ae h j bx w){t:Nat}{m u v:E}{ok:Bool}(v1:co ae m)(pa:co ae u)(a:ND C h t m u ok=some v):
 (Instr.lookup t (aT U m) (aT U u) ok).run C.P w= .ok (aT U v) w/\co ae v:=by
 unfold ND at a
 split at a
 ·rename_i kp B9 bc
  have key:∀(b8:List (E×E×Nat)) (ct:Array MapEntry) (r:Option (Nat×E)),ct.toList=b8.map (mw U)->(∀D∈b8,co ae D.1/\co ae D.2.1)->nQ C 20 kp u=true->findKey C h kp u b8 0=some r->
   (match r with|none=>(match uC C B9 with|some bE=>some (b0 ok (.tuple [bE, .bool false]) bE)|none=>none)|some (_,v)=>some (b0 ok (.tuple [v, .bool true]) v))=some v->
   (do
    Instr.checkKey ct.isEmpty 10000 kp (aT U u)
    let(v,T)<-match<-Instr.findKey kp (aT U u) ct.toList with
     |some (_,v)=>pure (v,true)
     |none=>pure (<-zeroValue B9,false)
    pure (if ok then .tuple #[v, .bool T]else v):Sem Value).run C.P w= .ok (aT U v) w/\co ae v:=by
   intro b8 ct r aE bV aH b4 bD
   obtain⟨fd,Pb⟩:=ahl aH
   have H:=ab4 (C:=C) (U:=U) (ae:=ae) (w:=w) (D:=ct.isEmpty) 20 10000 kp u Zd pa aH
   have M:=Td Y Pb pa bV b4
   rw[aE]
   cases r with
   |none=>
    simp only at bD
    split at bD
    ·rename_i bE cx
     obtain⟨g5,gx⟩:=F6 cx U ae w
     simp at bD;subst bD
     cases ok
     ·exact⟨by simp[H,M,vQ,g5],gx⟩
     ·exact⟨by simp[H,M,vQ,g5,aT,b3],⟨gx,trivial,trivial⟩⟩
    ·simp at bD
   |some p=>
    obtain⟨V,ac⟩:=p
    simp at bD;subst bD
    obtain⟨_,D,bA,rfl⟩:=adR b8 0 V ac b4
    have afx:=(bV D (Zl bA)).2
    cases ok
    ·exact⟨by simp[H,M,vQ],afx⟩
    ·exact⟨by simp[H,M,vQ,aT,b3],⟨afx,trivial,trivial⟩⟩
  split at a
  ·simp at a
  ·rename_i bn
   split at bn
   ·simp only[fb,Zf]at bn
    have:=key [] #[] none rfl Zs bn.1 (by simp[findKey]) a
    refine⟨?_,this.2⟩
    rw[<-this.1]
    simp only[Instr.lookup,Sem.run_bind,run_underlying bc,Result.andThen_ok,aT,Sem.run_pure]
    rfl
   ·rename_i r
    split at bn
    ·rename_i b8 ff bi
     simp only[fb]at bn
     obtain⟨ct,H,_,M,al⟩:=Mo Y v1 bi
     have:=key b8 ct none M al bn.1 bn.2 a
     refine⟨?_,this.2⟩
     rw[<-this.1]
     simp only[Instr.lookup,Sem.run_bind,run_underlying bc,Result.andThen_ok,aT,Sem.run_pure,H]
     rfl
    ·rename_i b8 bi
     simp only[fb]at bn
     obtain⟨ct,ff,mT,H,M,aB,al⟩:=Y.obj r _ bi v1
     have bs:qg C h kp u b8=some none:=by
      have:=bn.2
      unfold IR at this
      split at this<;>simp at this
      all_goals(rename_i ak;first|(rw[ak,this.2])|exact ak|(rw[ak];simp[this]))
     obtain⟨ik,eO,fp⟩:=ahM mT 0 _ (ahN aB.symm _ bs)
     cases ik with
     |none=>
      have:=key mT ct none M al bn.1 eO a
      refine⟨?_,this.2⟩
      rw[<-this.1]
      simp only[Instr.lookup,Sem.run_bind,run_underlying bc,Result.andThen_ok,aT,Sem.run_pure,MapKept.run_getObj_map H]
      rfl
     |some p=>
      obtain⟨fF,h5⟩:=p
      simp at fp
    ·simp at bn
   ·simp at bn
  ·rename_i V ac bn
   split at bn
   ·simp only[fb]at bn
    simp at bn
   ·rename_i r
    split at bn
    ·rename_i b8 ff bi
     simp only[fb]at bn
     obtain⟨ct,H,_,M,al⟩:=Mo Y v1 bi
     have:=key b8 ct (some (V,ac)) M al bn.1 bn.2 a
     refine⟨?_,this.2⟩
     rw[<-this.1]
     simp only[Instr.lookup,Sem.run_bind,run_underlying bc,Result.andThen_ok,aT,Sem.run_pure,H]
     rfl
    ·rename_i b8 bi
     simp only[fb]at bn
     obtain⟨ct,ff,mT,H,M,aB,al⟩:=Y.obj r _ bi v1
     have bs:qg C h kp u b8=some (some ac):=by
      have:=bn.2
      unfold IR at this
      split at this<;>simp at this
      all_goals(rename_i ak;first|(rw[ak,this.2])|exact ak|(rw[ak];simp[this]))
     obtain⟨ik,eO,fp⟩:=ahM mT 0 _ (ahN aB.symm _ bs)
     cases ik with
     |none=>
      simp at fp
     |some p=>
      obtain⟨fF,h5⟩:=p
      simp at fp
      subst fp
      have:=key mT ct (some (fF,h5)) M al bn.1 eO a
      refine⟨?_,this.2⟩
      rw[<-this.1]
      simp only[Instr.lookup,Sem.run_bind,run_underlying bc,Result.andThen_ok,aT,Sem.run_pure,MapKept.run_getObj_map H]
      rfl
    ·simp at bn
   ·simp at bn
 ·simp at a
end
end Go.bg

