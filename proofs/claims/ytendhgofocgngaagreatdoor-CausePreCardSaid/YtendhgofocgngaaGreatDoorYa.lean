/- Part of the proof of the last text; no conditions -/
import GoSem.Step
import Derived.KernelRfl
set_option maxHeartbeats 8000000
set_option linter.all false
namespace Go
def Zo{p:Prop}(h:p:=by omega):p:=h
def Za{p q:Prop}(a:p)(b:q):p/\q:=⟨a,b⟩
def Zd{p:Prop}(h:p:=by decide):p:=h
def Zs{p:Prop}(h:p:=by simp):p:=h
def Zk{p:Prop}(h:p:=by kernel_rfl):p:=h
def Zb:type_of%@List.getElem?_eq_some_iff:=@List.getElem?_eq_some_iff
def Zc:type_of%@decide_eq_false_iff_not:=@decide_eq_false_iff_not
def Ze:type_of%@List.getElem?_eq_getElem:=@List.getElem?_eq_getElem
def Zf:type_of%@Option.some.injEq:=@Option.some.injEq
def Zg:type_of%@if_neg:=@if_neg
def Zh:type_of%@Nat.le_refl:=@Nat.le_refl
def Zi:type_of%@decide_eq_true_eq:=@decide_eq_true_eq
def Zj:type_of%@Nat.eq_of_beq_eq_true:=@Nat.eq_of_beq_eq_true
def Zl:type_of%@List.length_map:=@List.length_map
def Zn:type_of%@List.mem_of_getElem?:=@List.mem_of_getElem?
def Zp:type_of%@Bool.and_eq_true:=@Bool.and_eq_true
def Zq:type_of%@if_pos:=@if_pos
def Zr:type_of%@List.mem_cons:=@List.mem_cons
def Zt:type_of%@List.mem_cons_of_mem:=@List.mem_cons_of_mem
def Zu:type_of%@List.mem_cons_self:=@List.mem_cons_self
def Zv:type_of%@List.getElem?_map:=@List.getElem?_map
def Zw:type_of%@Bool.false_eq_true:=@Bool.false_eq_true
def Zx:type_of%@List.mem_append:=@List.mem_append
def Zy:type_of%@Nat.le_trans:=@Nat.le_trans
def Zz:type_of%@List.drop_eq_getElem_cons:=@List.drop_eq_getElem_cons
def ZA:type_of%@if_false:=@if_false
def ZB:type_of%@List.mem_map:=@List.mem_map
def ZC:type_of%@if_true:=@if_true
def ZD:type_of%@List.length_cons:=@List.length_cons
def ZE:type_of%@List.map_cons:=@List.map_cons
def ZF:type_of%@Nat.zero_add:=@Nat.zero_add
def ZG:type_of%@List.getElem?_append_right:=@List.getElem?_append_right
def ZH:type_of%@List.take_of_length_le:=@List.take_of_length_le
def ZI:type_of%@not_false_eq_true:=@not_false_eq_true
def ZJ:type_of%@List.drop_eq_nil_of_le:=@List.drop_eq_nil_of_le
def ZK:type_of%@Option.map_some:=@Option.map_some
def ZL:type_of%@List.not_mem_nil:=@List.not_mem_nil
def ZM:type_of%@Array.getElem?_toList:=@Array.getElem?_toList
def ZN:type_of%@Nat.lt_of_lt_of_le:=@Nat.lt_of_lt_of_le
def ZO:type_of%@List.getElem?_append_left:=@List.getElem?_append_left
def ZP:type_of%@Nat.mul_one:=@Nat.mul_one
def ZQ:type_of%@Option.bind_some:=@Option.bind_some
def ZR:type_of%@Nat.add_zero:=@Nat.add_zero
def ZS:type_of%@Array.getElem?_eq_some_iff:=@Array.getElem?_eq_some_iff
def ZT:type_of%@List.getElem?_cons_succ:=@List.getElem?_cons_succ
def ZU:type_of%@List.length_append:=@List.length_append
def ZV:type_of%@Nat.add_assoc:=@Nat.add_assoc
def ZW:type_of%@List.length_pos_iff:=@List.length_pos_iff
def ZX:type_of%@List.getElem?_eq_none:=@List.getElem?_eq_none
def ZY:type_of%@List.length_nil:=@List.length_nil
def ZZ:type_of%@List.foldl_cons:=@List.foldl_cons
def Z0:type_of%@List.append_nil:=@List.append_nil
def Z1:type_of%@Option.bind_eq_some_iff:=@Option.bind_eq_some_iff
def Z2:type_of%@List.mem_iff_getElem?:=@List.mem_iff_getElem?
def Z3:type_of%@List.take_add_one:=@List.take_add_one
def Z4:type_of%@Option.isSome_none:=@Option.isSome_none
def Z5:type_of%@List.eq_nil_of_length_eq_zero:=@List.eq_nil_of_length_eq_zero
def Z6:type_of%@Option.isSome_some:=@Option.isSome_some
def Z7:type_of%@List.set_cons_zero:=@List.set_cons_zero
def Z8:type_of%@List.take_succ_cons:=@List.take_succ_cons
def Z9:type_of%@Nat.add_mul:=@Nat.add_mul
def Ya:type_of%@Bool.eq_iff_iff:=@Bool.eq_iff_iff
def Yb:type_of%@Nat.le_succ:=@Nat.le_succ
def Yc:type_of%@List.getElem?_cons_zero:=@List.getElem?_cons_zero
def Yd:type_of%@Int.eq_ofNat_of_zero_le:=@Int.eq_ofNat_of_zero_le
def Ye:type_of%@Bool.and_self:=@Bool.and_self
def Yf:type_of%@List.size_toArray:=@List.size_toArray
def Yg:type_of%@List.drop_zero:=@List.drop_zero
def Yh:type_of%@List.set_cons_succ:=@List.set_cons_succ
def Yi:type_of%@Option.bind_assoc:=@Option.bind_assoc
def Yj:type_of%@and_true:=@and_true
def Yk:type_of%@List.getElem?_drop:=@List.getElem?_drop
def Yl:type_of%@Option.map_eq_some_iff:=@Option.map_eq_some_iff
def Ym:type_of%@Option.some.inj:=@Option.some.inj
def Yn:type_of%@List.nil_append:=@List.nil_append
def Yo:type_of%@List.map_append:=@List.map_append
def Yp:type_of%@List.length_drop:=@List.length_drop
def Yq:type_of%@List.map_congr_left:=@List.map_congr_left
def Yr:type_of%@List.drop_succ_cons:=@List.drop_succ_cons
def Ys:type_of%@List.flatMap_cons:=@List.flatMap_cons
def Yt:type_of%@List.flatten_cons:=@List.flatten_cons
def Yu:type_of%@Array.getElem?_append_left:=@Array.getElem?_append_left
def Yv:type_of%@List.filter_cons:=@List.filter_cons
def Yw:type_of%@decide_false:=@decide_false
def Yx:type_of%@or_false:=@or_false
def Yy:type_of%@Bool.not_true:=@Bool.not_true
def Yz:type_of%@Bool.not_false:=@Bool.not_false
def YA:type_of%@List.map_map:=@List.map_map
def YB:type_of%@List.mem_singleton:=@List.mem_singleton
def YC:type_of%@List.mem_of_mem_take:=@List.mem_of_mem_take
def YD:type_of%@List.getElem?_set:=@List.getElem?_set
def YE:type_of%@List.take_zero:=@List.take_zero
def YF:type_of%@List.takeWhile_cons:=@List.takeWhile_cons
def YG:type_of%@List.mem_filter:=@List.mem_filter
def YH:type_of%@decide_true:=@decide_true
def YI:type_of%@Nat.mod_eq_of_lt:=@Nat.mod_eq_of_lt
def YJ:type_of%@beq_self_eq_true:=@beq_self_eq_true
def YK:type_of%@Nat.lt_succ_self:=@Nat.lt_succ_self
def YL:type_of%@Option.getD_some:=@Option.getD_some
def YM:type_of%@List.length_take:=@List.length_take
def YN:type_of%@List.getElem?_take_of_lt:=@List.getElem?_take_of_lt
def YO:type_of%@List.length_eq_zero_iff:=@List.length_eq_zero_iff
def YP:type_of%@Array.size_append:=@Array.size_append
def YQ:type_of%@Nat.lt_trichotomy:=@Nat.lt_trichotomy
def YR:type_of%@Array.ext':=@Array.ext'
def YS:type_of%@Nat.beq_refl:=@Nat.beq_refl
def YT:type_of%@Prod.mk.injEq:=@Prod.mk.injEq
def YU:type_of%@List.take_length:=@List.take_length
def YV:type_of%@Nat.eq_of_mul_eq_mul_right:=@Nat.eq_of_mul_eq_mul_right
def YW:type_of%@List.getElem?_toArray:=@List.getElem?_toArray
def YX:type_of%@Array.getElem?_modify:=@Array.getElem?_modify
def YY:type_of%@Array.getElem?_eq_getElem:=@Array.getElem?_eq_getElem
def YZ:type_of%@List.pairwise_iff_getElem:=@List.pairwise_iff_getElem
def Y0:type_of%@not_or:=@not_or
def Y1:type_of%@Bool.or_eq_true:=@Bool.or_eq_true
def Y2:type_of%@List.length_set:=@List.length_set
def Y3:type_of%@List.ext_getElem?:=@List.ext_getElem?
def Y4:type_of%@List.mem_of_mem_drop:=@List.mem_of_mem_drop
def Y5:type_of%@Nat.sub_zero:=@Nat.sub_zero
def Y6:type_of%@Int.emod_eq_of_lt:=@Int.emod_eq_of_lt
def Y7:type_of%@List.foldl_append:=@List.foldl_append
def Y8:type_of%@beq_iff_eq:=@beq_iff_eq
def Y9:type_of%@Bool.and_true:=@Bool.and_true
def za:type_of%@List.filter_toArray:=@List.filter_toArray
def zb:type_of%@List.cons_append:=@List.cons_append
def zc:type_of%@Nat.le_mul_of_pos_right:=@Nat.le_mul_of_pos_right
def zd:type_of%@Nat.lt_or_ge:=@Nat.lt_or_ge
def ze:type_of%@Option.map_none:=@Option.map_none
def zf:type_of%@List.find?_cons:=@List.find?_cons
def zg:type_of%@Nat.le_div_iff_mul_le:=@Nat.le_div_iff_mul_le
def zh:type_of%@Array.mem_of_getElem?:=@Array.mem_of_getElem?
def zi:type_of%@List.mapM_cons:=@List.mapM_cons
def zj:type_of%@Nat.le_of_eq:=@Nat.le_of_eq
def zk:type_of%@List.all_eq_true:=@List.all_eq_true
def zl:type_of%@Nat.le_add_right:=@Nat.le_add_right
def zm:type_of%@Nat.zero_mul:=@Nat.zero_mul
def zn:type_of%@List.set_nil:=@List.set_nil
def zo:type_of%@List.flatten_append:=@List.flatten_append
def zp:type_of%@List.cons.injEq:=@List.cons.injEq
def zq:type_of%@Nat.mod_lt:=@Nat.mod_lt
def zr:type_of%@List.pairwise_cons:=@List.pairwise_cons
def zs:type_of%@List.getElem?_take:=@List.getElem?_take
def zt:type_of%@List.find?_eq_none:=@List.find?_eq_none
def zu:type_of%@Nat.zero_le:=@Nat.zero_le
def zv:type_of%@List.drop_drop:=@List.drop_drop
def zw:type_of%@Nat.le_of_lt:=@Nat.le_of_lt
def zx:type_of%@Nat.not_lt:=@Nat.not_lt
def zy:type_of%@Nat.mul_comm:=@Nat.mul_comm
def zz:type_of%@Nat.sub_self:=@Nat.sub_self
def zA:type_of%@true_and:=@true_and
def zB:type_of%@and_self:=@and_self
def zC{p q:Prop}(a:q)(h:q->p:=by intro h;omega):p:=h a
def zD(a b:Nat)(h:b<=a:=by omega):decide ((a:Int)<(b:Int))=false:=decide_eq_false (by omega)
def zE(a b:Nat)(h:a<b:=by omega):decide ((a:Int)<(b:Int))=true:=decide_eq_true (by omega)
def zF{α:Type}(l:List α)(i:Nat)(h:i<l.length:=by omega):∃x,l[i]? =some x:=⟨_,List.getElem?_eq_getElem h⟩
end Go
namespace Go.bn
noncomputable section
inductive S(α:Type) where
 |nil
 |node (v:Option α) (k r:S α)
 deriving Inhabited
universe ac
def bI{α:Type ac}(c:Bool)(t B:α):α:=Bool.rec (motive:=λ_=>α) B t c
def S.get{α:Type}(t:S α):Nat->Option α:=
 S.rec (motive:=λ_=>Nat->Option α) (λ_=>none)
  (λv _ _ h5 p9 i=>Nat.rec (motive:=λ_=>Option α) v (λW _=>bI (Nat.beq (Nat.mod W 2) 0) (h5 (Nat.div W 2)) (p9 (Nat.div W 2))) i) t
def jt{α en:Type}(t:S α)(o:S α->en):en:=
 S.rec (motive:=λ_=>en) (o .nil) (λv k r _ _=>o (.node v k r)) t
def S.rB{α:Type}(f:Nat):S α->Nat->Option α->S α:=
 Nat.rec (motive:=λ_=>S α->Nat->Option α->S α) (λt _ _=>t)
  (λ_ ag t i E=>S.rec (motive:=λ_=>S α)
   (Nat.rec (motive:=λ_=>S α) (.node E .nil .nil) (λW _=>bI (Nat.beq (Nat.mod W 2) 0)
    (jt (ag .nil (Nat.div W 2) E) λbQ=> .node none bQ .nil) (jt (ag .nil (Nat.div W 2) E) λfL=> .node none .nil fL)) i)
   (λv k r _ _=>Nat.rec (motive:=λ_=>S α) (.node E k r) (λW _=>bI (Nat.beq (Nat.mod W 2) 0)
    (jt (ag k (Nat.div W 2) E) λbQ=> .node v bQ r) (jt (ag r (Nat.div W 2) E) λfL=> .node v k fL)) i) t) f
def p6{en:Type}(n:Nat)(o:Nat->en):en:=Nat.rec (motive:=λ_=>en) (o 0) (λm _=>o (Nat.succ m)) n
def Rk{en:Type}(n:Int)(o:Int->en):en:=
 Int.rec (motive:=λ_=>en) (λm=>p6 m λm=>o (.ofNat m)) (λm=>p6 m λm=>o (.negSucc m)) n
def ee{α:Type}(k:List (Nat×α)):Nat->Option α:=
 List.rec (motive:=λ_=>Nat->Option α) (λ_=>none) (λp _ ag W=>Prod.rec (motive:=λ_=>Option α) (λE b=>bI (Nat.beq E W) (some b) (ag W)) p) k
def S.set{α:Type}(t:S α)(i:Nat)(E:Option α):S α:=S.rB (i+1) t i E
def S.ofList{α:Type}:List α->Nat->S α->S α
 |[],_,t=>t
 |E::k,i,t=>jt (t.set i (some E)) λg8=>ofList k (i+1) g8
def S.kh{α:Type}(t:S α):Nat->Nat->Option (List α)
 |_,0=>some []
 |U,n+1=>match t.get U with
  |none=>none
  |some E=>match kh t (U+1) n with
   |none=>none
   |some k=>some (E::k)
def pM{α:Type}(k:List α):Nat->Option α:=
 List.rec (motive:=λ_=>Nat->Option α) (λ_=>none) (λE _ ag i=>Nat.rec (motive:=λ_=>Option α) (some E) (λW _=>ag W) i) k
inductive z where
 |bool (b:Bool)
 |int (o:IntKind) (n:Int)
 |str (s:List Nat)
 |ptr (b U:Nat)
 |cW
 |slice (b U len cap:Nat)
 |el (b U len aR:Nat)
 |a2
 |map (m:Nat)
 |mf
 |func (fn:Fn) (first fw:List z)
 |nilFunc
 |iface (t:Nat) (v:z)
 |nilIface
 |agg (cs:List z)
 |tuple (aY:List z)
 deriving Inhabited
def z.cells:z->List z
 | .agg cs=>cs
 |v=>[v]
def undef:z:= .tuple []
def BI{α en:Type}(f:α->Option en):List α->Option (List en)
 |[]=>some []
 |E::k=>match f E with
  |none=>none
  |some b=>match BI f k with
   |none=>none
   |some r=>some (b::r)
def BS:Nat->Value->Option z
 |0,_=>none
 |n+1,v=>match v with
  | .bool b=>some (.bool b)
  | .int o n=>some (.int o n)
  | .string s=>some (.str (s.data.toList.map (·.toNat)))
  | .pointer none=>some .cW
  | .slice none 0 0=>some .a2
  | .map none=>some .mf
  | .func (.func f) ⟨[]⟩ ⟨[]⟩=>some (.func (.func f) [] [])
  | .nilFunc=>some .nilFunc
  | .iface t v=>match BS n v with|some E=>some (.iface t E)|none=>none
  | .nilIface=>some .nilIface
  | .agg cs=>match BI (BS n) cs.toList with|some k=>some (.agg k)|none=>none
  | .tuple cs=>match BI (BS n) cs.toList with|some k=>some (.tuple k)|none=>none
  |_=>none
def Eg(v:Value):Option z:=BS 20 v
inductive PB where
 |fn (fn:Fn) (fw:List z)
 |collected (r:Nat)
structure hE where
 target:PB
 args:List z
inductive oS where
 |own|marked|grow (et:List Nat)|jO
 deriving Inhabited
inductive ai where
 |cells (c:S z) (size:Nat) (st:oS)
 |map (a1:List (z×z×Nat)) (dn:Nat)
 |look (a1:List (z×z))
 |oF (s:List Nat) (pos:Nat)
 |kB (m:Option Nat) (eL:Nat) (seen:List Nat) (lj:Nat)
 |vj (m eL n:Nat) (cj:List Nat) (st:Nat) (lQ:Option Nat)
 |loop (state:LoopState) (pending:Option Code) (fn:Nat) (n am:Nat) (I:S z) (params:List Nat) (assign body:Code) (defers:Nat)
 |deferred (pw:Option (List hE))
structure aK where
 P:Program
 G:S ai
 bf:Nat
 g7:Nat->List z->Option z
 pf:Nat
def Z(C:aK)(h:S ai)(b:Nat):Option ai:=
 bI (Nat.blt b C.bf) (C.G.get b) (h.get (Nat.sub b C.bf))
def bp(C:aK)(h:S ai)(b:Nat)(U:Option ai):S ai:=h.set (Nat.sub b C.bf) U
def jI(C:aK)(b:Nat):Bool:=Nat.ble C.bf b
structure rM where
 v:z
 recovered:Bool
inductive k1 where
 |run|returning|panicking (chain:List rM)
inductive kq where
 |v (W:Nat)
 |t (n:Nat)
 |c (E:z)
inductive jS where
 |D5 (x:kq)
 |pick (c E b:kq)
 |fq (E:kq)
 |Bz (n:Nat) (E:kq)
 |off (d:Nat) (x:kq)
 |Bq (n aR:Nat) (x i:kq)
 |Br (aR:Nat) (x i:kq)
 |Eb (x:kq)
 |J6 (op:BinOp) (x e:kq)
 |ext (i:Nat) (x:kq)
 |st (n:Nat) (E v:kq)
 |call (f:Nat) (args:List kq)
 |h9 (bY:List (Nat×Nat)) (U:Op)
 |make (bY:List (Nat×Nat)) (U:Op)
 |fg (bY:List (Nat×Nat)) (U:Op)
structure fh where
 i:Nat
 g:Option (Nat×Bool)
 op:jS
structure vL where
 tN:List fh
 UN:List fh
 fg:Option fh
inductive dJ where
 |code (c:Code)
 |inBlock (id:Nat)
 |inLoop (body:Code)
 |inScope (body:Code)
 |Hr (ao:Array Oper) (an:List (Nat×z)) (rest:List fh) (fin:List (Nat×Nat))
 |drawn (ao:Array Oper) (base:Nat) (an:List (Nat×z)) (li:List vL) (fin:List (Nat×Nat))
 |s0 (ao:Array Oper) (an:List (Nat×z)) (a:Nat) (rest:List fh) (fin:List (Nat×Nat))
 |y9 (ao:Array Oper) (base:Nat) (an:List (Nat×z)) (a:Nat) (li:List vL) (fin:List (Nat×Nat))
 |inRangeFunc (k:Nat)
 |endRangeFunc (k:Nat)
 |beginRound
structure gz where
 fn:Nat
 n:Nat
 am:Nat
 I:S z
 todo:List dJ
 defers:List hE
 mode:k1
 deferred:Bool
 roundOf:Option Nat
section ao
variable(C:aK)
def iC(t:Nat):Option Nat:=match C.P.info? t with|some i=>some i.size|none=>none
def pY(t:Nat):Option z:=match C.P.info? t with|some i=>(match i.zero with|some v=>Eg v|none=>none)|none=>none
def DI(t:Nat):Option Bool:=match C.P.underlying t with
 |some (.struct _)=>some true|some (.array _ _)=>some true|some _=>some false|none=>none
def oE:List z->Nat->List z->List z
 |cs,_,[]=>cs
 |cs,U,v::k=>oE (cs.set U v) (U+1) k
def AS(Hk:Nat->Option (Nat×Nat)):List z->List (Nat×z)->Option (List z)
 |cells,[]=>some cells
 |cells,(i,v)::rest=>match Hk i with
  |none=>none
  |some (off,size)=>
   bI (Nat.beq v.cells.length size&&Nat.ble (off+size) cells.length) (AS Hk (oE cells off v.cells) rest)<|none
def jD:Nat->List z->List z
 |0,_=>[]
 |n+1,aG=>aG++jD n aG
def xO(au:Operand->Option z):List (Nat×Operand)->Option (List (Nat×z))
 |[]=>some []
 |(i,x)::k=>match au x,xO au k with|some v,some r=>some ((i,v)::r)|_,_=>none
def pz(au:Operand->Option z):List Operand->Option (List z)
 |[]=>some []
 |x::k=>match au x,pz au k with|some v,some r=>some (v::r)|_,_=>none
def Vj(jZ:List Field)(i:Nat):Option (Nat×Nat):=
 match pM jZ i with
 |some f=>(match iC C f.type with|some s=>some (f.offset,s)|none=>none)
 |none=>none
def OF:List Field->Bool
 |[]=>true
 |f::k=>(match iC C f.type with|some _=>true|none=>false)&&OF k
def LF(t:Nat)(j9:List (Nat×z)):Option z:=
 match pY C t with
 |none=>none
 |some aG=>match C.P.underlying t with
  |some (.struct jZ)=>bI (OF C jZ.toList) (match AS (Vj C jZ.toList) aG.cells j9 with|some cs=>some (.agg cs)|none=>none) none
  |some (.array _ dO)=>(match iC C dO with
   |some s=>(match AS (λi=>some (i*s,s)) aG.cells j9 with|some cs=>some (.agg cs)|none=>none)
   |none=>none)
  |_=>none
def Cu(t:Nat)(cs:List z)(off:Nat):Option z:=
 match DI C t,iC C t with
 |some true,some s=>some (.agg ((cs.drop off).take s))
 |some false,_=>pM cs off
 |_,_=>none
def mL:List Nat->List Nat->Bool
 |[],[]=>true
 |E::x,b::e=>Nat.beq E b&&mL x e
 |_,_=>false
def BN:List Nat->List Nat->Bool
 |_,[]=>false
 |[],_::_=>true
 |E::x,b::e=>Nat.blt E b||(Nat.beq E b&&BN x e)
def OM(h:S ai)(b U:Nat):Bool:=match Z C h b with
 |some (.cells _ n .own)=>jI C b&&Nat.blt U n
 |_=>false
def G4(h:S ai)(b U:Nat):Bool:=match Z C h b with
 |some (.cells _ _ .jO)=>false
 |some (.cells _ n _)=>Nat.blt U n
 |_=>false
def ptrEq(h:S ai)(b U dw o':Nat):Option Bool:=
 bI (Nat.beq b dw) (some (Nat.beq U o')) (bI (OM C h b U&&G4 C h dw o'||OM C h dw o'&&G4 C h b U) (some false) none)
def H5(eq:Nat->z->z->Option Bool):List Field->List z->List z->Option Bool
 |[],_,_=>some true
 |f::kg,ci,pX=>
  bI (f.name== "_") none<|
  match Cu C f.type ci f.offset,Cu C f.type pX f.offset with
  |some E,some b=>(match eq f.type E b with
   |some true=>H5 eq kg ci pX
   |some false=>some false
   |none=>none)
  |_,_=>none
def lx(o eA:IntKind):Bool:=match o,eA with
 | .i8, .i8=>true| .i16, .i16=>true| .i32, .i32=>true| .i64, .i64=>true
 | .u8, .u8=>true| .u16, .u16=>true| .u32, .u32=>true| .u64, .u64=>true
 |_,_=>false
def LY(E b:Bool):Bool:=match E,b with|true,true=>true|false,false=>true|_,_=>false
def tJ(x e:Int):Bool:=match x,e with
 | .ofNat E, .ofNat b=>Nat.beq E b
 | .negSucc E, .negSucc b=>Nat.beq E b
 |_,_=>false
def wJ(x e:Int):Bool:=match x,e with
 | .ofNat E, .ofNat b=>Nat.blt E b
 | .negSucc E, .negSucc b=>Nat.blt b E
 | .negSucc _, .ofNat _=>true
 | .ofNat _, .negSucc _=>false
def mu(h:S ai):Nat->Nat->z->z->Option Bool
 |0,_,_,_=>none
 |d+1,t,x,e=>
  match C.P.underlying t,x,e with
  |some .bool, .bool E, .bool b=>some (LY E b)
  |some (.int _), .int o E, .int eA b=>bI (lx o eA) (some (tJ E b)) none
  |some .string, .str E, .str b=>some (mL E b)
  |some (.pointer _), .cW, .cW=>some true
  |some (.pointer _), .cW, .ptr _ _=>some false
  |some (.pointer _), .ptr _ _, .cW=>some false
  |some (.pointer B), .ptr b U, .ptr dw o'=>
   (
    match iC C B with
    |some s=>bI (Nat.beq s 0) none (ptrEq C h b U dw o')
    |none=>none)
  |some (.interface _), .nilIface, .nilIface=>some true
  |some (.interface _), .nilIface, .iface _ _=>some false
  |some (.interface _), .iface _ _, .nilIface=>some false
  |some (.interface _), .iface K8 lE, .iface ty Pq=>bI (Nat.beq K8 ty) (match C.P.info? K8 with
   |some i=>bI i.comparable (mu h d K8 lE Pq) none
   |none=>none) (some false)
  |some (.slice _), .a2, .a2=>some true
  |some (.slice _), .a2, .slice .. =>some false
  |some (.slice _), .a2, .el .. =>some false
  |some (.slice _), .slice .., .a2=>some false
  |some (.slice _), .el .., .a2=>some false
  |some (.map _ _), .mf, .mf=>some true
  |some (.map _ _), .mf, .map _=>some false
  |some (.map _ _), .map _, .mf=>some false
  |some (.func _ _ _), .nilFunc, .nilFunc=>some true
  |some (.func _ _ _), .nilFunc, .func .. =>some false
  |some (.func _ _ _), .func .., .nilFunc=>some false
  |some (.struct jZ), .agg ci, .agg pX=>bI (C.P.stoodInHeld t) none (H5 C (mu h d) jZ.toList ci pX)
  |_,_,_=>none
def oK(o:IntKind)(n:Int):Int:=
 match o with
 | .i64=>(λm:Int=>bI (decide (m<9223372036854775808)) m (m-18446744073709551616)) (n%18446744073709551616)
 | .u64=>n%18446744073709551616
 | .u8=>n%256
 |o=>o.wrap n
def o9(o:IntKind)(n:Int):Option z:=Rk n λn=>some (.int o n)
def kT(o:IntKind)(n:Int):Option z:=Rk (oK o n) λn=>some (.int o n)
def oV(b:Bool):Option z:=bI b (some (.bool true)) (some (.bool false))
def lo(op:BinOp):IntKind->Int->Int->Option z:=
 match op with
 | .add=>λo x e=>kT o (x+e)
 | .sub=>λo x e=>kT o (x-e)
 | .mul=>λo x e=>kT o (x*e)
 | .quo=>λo x e=>bI (tJ e 0) none (kT o (x.tdiv e))
 | .rem=>λo x e=>bI (tJ e 0) none (o9 o (x.tmod e))
 | .and=>λo x e=>kT o ((BitVec.ofInt o.bits x&&& BitVec.ofInt o.bits e).toNat)
 | .or=>λo x e=>kT o ((BitVec.ofInt o.bits x|||BitVec.ofInt o.bits e).toNat)
 | .xor=>λo x e=>kT o ((BitVec.ofInt o.bits x^^^BitVec.ofInt o.bits e).toNat)
 | .andNot=>λo x e=>kT o ((BitVec.ofInt o.bits x&&& ~~~ BitVec.ofInt o.bits e).toNat)
 | .eql=>λ_ x e=>oV (tJ x e)
 | .neq=>λ_ x e=>oV (!tJ x e)
 | .lss=>λ_ x e=>oV (wJ x e)
 | .leq=>λ_ x e=>oV (!wJ e x)
 | .gtr=>λ_ x e=>oV (wJ e x)
 | .geq=>λ_ x e=>oV (!wJ x e)
 |_=>λ_ _ _=>none
def H8(op:BinOp)(o:IntKind)(x e:Int):Option z:=
 bI (wJ e 0) none
 (match op with
 | .shl=>kT o (x*2^(min e.toNat o.bits))
 | .shr=>o9 o (x.fdiv (2^(min e.toNat o.bits)))
 |_=>none)
def lv(op:BinOp):Bool:=match op with| .shl| .shr=>true|_=>false
def Aw(op:BinOp)(x e:List Nat):Option z:=
 match op with
 | .add=>bI (Nat.ble (x.length+e.length) 1000000000) (some (.str (x++e)))<|none
 | .eql=>oV (mL x e)
 | .neq=>oV (!mL x e)
 | .lss=>oV (BN x e)
 | .leq=>oV (BN x e||mL x e)
 | .gtr=>oV (!(BN x e||mL x e))
 | .geq=>oV (!BN x e)
 |_=>none
def bm(op:BinOp)(x e:z):Option z:=
 match x,e with
 | .int o E, .int eA b=>bI (lv op) (H8 op o E b) (bI (lx o eA) (lo op o E b) none)
 |_,_=>none
def FR(t:Nat)(tg:Bool)(x e:z):Bool:=match x,e with
 | .nilIface, .nilIface=>tg||(match C.P.underlying t with|some (.interface iz)=>iz.isEmpty|_=>false)
 | .agg _, .agg _=> !C.P.eqGuardType C.P.depth t
 |_,_=>true
def dv(h:S ai)(op:BinOp)(t:Nat)(tg:Bool)(x e:z):Option z:=
 match x,e with
 | .int o E, .int eA b=>bm op (.int o E) (.int eA b)
 | .str E, .str b=>Aw op E b
 |x,e=>bI (FR C t tg x e) (match op with
  | .eql=>(match mu C h 50 t x e with|some b=>oV b|none=>none)
  | .neq=>(match mu C h 50 t x e with|some b=>oV (!b)|none=>none)
  |_=>none) none
def hb(op:UnOp)(x:z):Option z:=
 match op,x with
 | .neg, .int o n=>lo .sub o 0 n
 | .xor, .int o n=>lo .xor o (if o.signed then -1 else o.max) n
 | .not, .bool b=>oV (!b)
 |_,_=>none
def Qd(ayO dst:Nat)(x:z):Option z:=
 match C.P.underlying ayO,C.P.underlying dst,x with
 |some _,some (.int o), .int _ n=>kT o n
 |some _,some .string, .str s=>some (.str s)
 |_,_,_=>none
def nS(v:z):Option Nat:=match v with| .int _ n=>(match n with| .ofNat n=>some n|_=>none)|_=>none
def ow(U:Option z)(m d:Nat):Option Nat:=match U with
 |some v=>(match nS v with|some n=>bI (Nat.ble n m) (some n)<|none|none=>none)
 |none=>some d
def ms(len cap:Nat)(bC aA g6:Option z):Option (Nat×Nat×Nat):=
 match ow g6 cap cap with
 |none=>none
 |some m=>match (match aA,g6 with
   |none,some _=>none
   |aA,_=>ow aA m len)with
  |none=>none
  |some a=>match ow bC a 0 with
   |none=>none
   |some k=>some (k,a,m)
def BX(au:Operand->Option z):Option Operand->Option (Option z)
 |none=>some none
 |some x=>match au x with|some v=>some (some v)|none=>none
def tW(h:S ai)(b:Nat):Option Nat:=match Z C h b with|some (.cells _ n (.grow _))=>some n|some (.cells _ n .jO)=>some n|_=>none
def LO(h:S ai)(t:Nat)(x:z)(bC aA g6:Option z):Option z:=
 match C.P.underlying t,x with
 |some .string, .str s=>(match g6 with
  |some _=>none
  |none=>(match ms s.length s.length bC aA none with
   |some (k,a,_)=>some (.str ((s.drop k).take (a-k)))
   |none=>none))
 |some (.slice dO), .slice b U len cap=>(match ms len cap bC aA g6,iC C dO with
  |some (k,a,m),some aR=>some (.slice b (bI (Nat.beq m k) (U)<|U+k*aR) (a-k) (m-k))
  |_,_=>none)
 |some (.slice dO), .a2=>(match ms 0 0 bC aA g6,iC C dO with
  |some _,some _=>some .a2
  |_,_=>none)
 |some (.slice dO), .el b U len aR=>(match iC C dO,tW C h b with
  |some w8,some n=>bI (Nat.beq aR w8&&Nat.blt 0 aR) ((match ms len ((n-U)/aR) bC aA g6 with
    |some (k,a,m)=>(match g6 with
     |some _=>some (.slice b (bI (Nat.beq m k) (U)<|U+k*aR) (a-k) (m-k))
     |none=>bI (Nat.blt k ((n-U)/aR)||Nat.beq k 0) (some (.el b (U+k*aR) (a-k) aR))<|none)
    |none=>none))<|none
  |_,_=>none)
 |some (.array n dO), .ptr b U=>(match ms n n bC aA g6,iC C dO with
  |some (k,a,m),some aR=>some (.slice b (bI (Nat.beq m k) (U)<|U+k*aR) (a-k) (m-k))
  |_,_=>none)
 |_,_=>none
def LK(t:Nat)(x i:z):Option z:=
 match nS i with
 |none=>none
 |some i=>match C.P.underlying t,x with
  |some (.array n dO), .agg cs=>(match iC C dO with|some aR=>bI (Nat.blt i n) (Cu C dO cs (i*aR))<|none|none=>none)
  |some .string, .str s=>(match pM s i with|some c=>some (.int .u8 (Int.ofNat c))|none=>none)
  |_,_=>none
def cellsOf(h:S ai)(b:Nat):Option (S z):=match Z C h b with
 |some (.cells c _ _)=>some c
 |_=>none
def aV(h:S ai)(E:z):Option z:=
 match E with
 | .ptr b U=>(match cellsOf C h b with
   |some c=>c.get U
   |none=>none)
 |_=>none
def ep(h:S ai)(n:Nat)(E:z):Option z:=
 match E with
 | .ptr b U=>(match cellsOf C h b with
   |some c=>(match c.kh U n with|some k=>some (.agg k)|none=>none)
   |none=>none)
 |_=>none
def pv(h:S ai)(t:Nat)(E:z):Option z:=
 match DI C t,iC C t with
 |some true,some s=>ep C h s E
 |some false,_=>aV C h E
 |_,_=>none
def mv:Nat->Nat->z->Bool
 |0,_,_=>false
 |n+1,t,v=>match C.P.underlying t,v with
  |some (.interface _), .iface d x=>(match C.P.info? d with|some i=>i.comparable&&mv n d x|none=>false)
  |some (.interface _), .nilIface=>true
  |some (.interface _),_=>false
  |some (.struct jZ), .agg cs=>jZ.toList.all λf=>f.name== "_"||(match Cu C f.type cs f.offset with|some p=>mv n f.type p|none=>false)
  |some (.struct _),_=>false
  |some (.array _ _),_=>false
  |some _,_=>true
  |none,_=>false
def ov:Nat->z->z->Bool
 |0,_,_=>false
 |n+1,x,e=>match x,e with
  | .bool E, .bool b=>LY E b
  | .int o E, .int eA b=>lx o eA&&tJ E b
  | .str E, .str b=>mL E b
  | .ptr b U, .ptr dw o'=>Nat.beq b dw&&Nat.beq U o'
  | .cW, .cW=>true
  | .nilIface, .nilIface=>true
  | .iface t v, .iface g8 fd=>Nat.beq t g8&&ov n v fd
  | .agg E, .agg b=>Bx n E b
  |_,_=>false
 where
 Bx (n:Nat):List z->List z->Bool
 |[],[]=>true
 |x::E,e::b=>ov n x e&&Bx n E b
 |_,_=>false
def findKey(h:S ai)(t:Nat)(o:z):List (z×z×Nat)->Nat->Option (Option (Nat×z))
 |[],_=>some none
 |(eA,v,_)::a1,i=>match mu C h 20 t o eA with
  |some true=>some (some (i,v))
  |some false=>findKey h t o a1 (i+1)
  |none=>none
def pd(h:S ai)(t:Nat)(o:z):List (z×z)->Option (Option z)
 |[]=>some none
 |(eA,v)::a1=>match pd h t o a1,mu C h 20 t o eA with
  |some r,some false=>some r
  |some none,some true=>some (some v)
  |_,_=>none
def G5(r:Option (Option z)):Option (Option (Nat×z)):=match r with
 |some (some v)=>some (some (0,v))
 |some none=>some none
 |none=>none
def LN(h:S ai)(t:Nat)(m o:z)(ok:Bool):Option z:=
 match C.P.underlying t with
 |some (.map hx ti)=>
  (match (match m with
   | .mf=>bI (mv C 20 hx o) (some none) none
   | .map r=>(match Z C h r with|some (.map a1 _)=>bI (mv C 20 hx o) (findKey C h hx o a1 0) none|some (.look a1)=>bI (mv C 20 hx o) (G5 (pd C h hx o a1)) none|_=>none)
   |_=>none)with
  |none=>none
  |some none=>(match pY C ti with|some aG=>some (bI (ok) (.tuple [aG, .bool false])<|aG)|none=>none)
  |some (some (_,v))=>some (bI (ok) (.tuple [v, .bool true])<|v))
 |_=>none
def LM(h:S ai)(t:Nat)(x:z):Option z:=
 match C.P.underlying t,x with
 |some .string, .str s=>o9 .i64 (Int.ofNat s.length)
 |some (.array n _),_=>some (.int .i64 (Int.ofNat n))
 |some (.pointer bU),_=>(match C.P.underlying bU with|some (.array n _)=>some (.int .i64 (Int.ofNat n))|_=>none)
 |some (.slice _), .slice _ _ n _=>o9 .i64 (Int.ofNat n)
 |some (.slice _), .el _ _ n _=>o9 .i64 (Int.ofNat n)
 |some (.slice _), .a2=>some (.int .i64 0)
 |some (.map _ _), .mf=>some (.int .i64 0)
 |some (.map _ _), .map r=>(match Z C h r with|some (.map a1 _)=>o9 .i64 (Int.ofNat a1.length)|_=>none)
 |_,_=>none
def LG(t:Nat)(x:z):Option z:=
 match C.P.underlying t,x with
 |some (.slice _), .slice _ _ _ n=>o9 .i64 (Int.ofNat n)
 |some (.slice _), .a2=>some (.int .i64 0)
 |_,_=>none
def oU(g6:Bool):z->List z->Option z
 |v,[]=>some v
 | .int o x, .int _ e::k=>oU g6 (.int o (bI (g6) ((bI (wJ x e) (e)<|x))<|(bI (wJ e x) (e)<|x))) k
 |_,_=>none
def xE:List z->Option (List Nat)
 |[]=>some []
 | .int .u8 (.ofNat n)::k=>(match xE k with|some r=>some (n%256::r)|none=>none)
 |_=>none
def kt(h:S ai)(b U n:Nat):Option (List z):=
 match cellsOf C h b with
 |some c=>c.kh U n
 |none=>bI (Nat.beq n 0) (some []) none
def Fw(h:S ai)(x:z):Option z:=
 match x with
 | .a2=>some (.str [])
 | .slice b U len _=>(match kt C h b U len with|some k=>(match xE k with|some s=>some (.str s)|none=>none)|none=>none)
 | .el b U len _=>(match kt C h b U len with|some k=>(match xE k with|some s=>some (.str s)|none=>none)|none=>none)
 |_=>none
def TR(t:Nat)(j9:Array (Nat×Operand))(_:S ai)(au:Operand->Option z):Option z:=
 match xO au j9.toList with|some df=>LF C t df|none=>none
def qu(U:Operand):Bool:=match U with| .const _=>true|_=>false
def Og(op:BinOp)(t:Nat)(x e:Operand)(h:S ai)(au:Operand->Option z):Option z:=
 match au x,au e with|some E,some b=>dv C h op t (qu x||qu e) E b|_,_=>none
def TY(op:UnOp)(x:Operand)(_:S ai)(au:Operand->Option z):Option z:=
 match au x with|some E=>hb op E|none=>none
def Kk(s d:Nat)(x:Operand)(h:S ai)(au:Operand->Option z):Option z:=
 match au x with
 |some E=>(match Qd C s d E with
  |some v=>some v
  |none=>(match C.P.underlying s,C.P.underlying d with
   |some (.slice B),some .string=>(match C.P.underlying B with|some (.int .u8)=>Fw C h E|_=>none)
   |_,_=>none))
 |none=>none
def Kn(t:Nat)(x:Operand)(_:S ai)(au:Operand->Option z):Option z:=
 match C.P.underlying t,au x with
 |some (.interface _),_=>none
 |some _,some v=>some (.iface t v)
 |_,_=>none
def TU(fn:Fn)(first fw:Array Operand)(_:S ai)(au:Operand->Option z):Option z:=
 match pz au first.toList,pz au fw.toList with
 |some E,some b=>(match fn with| .func f=>some (.func (.func f) E b)|_=>none)
 |_,_=>none
def TX(t:Nat)(x:Operand)(bC aA g6:Option Operand)(h:S ai)(au:Operand->Option z):Option z:=
 match au x,BX au bC,BX au aA,BX au g6 with
 |some v,some k,some a,some m=>LO C h t v k a m
 |_,_,_,_=>none
def Km(t:Nat)(x:Operand)(f:Nat)(_:S ai)(au:Operand->Option z):Option z:=
 match C.P.underlying t,au x with
 |some (.struct jZ),some (.agg cs)=>(match pM jZ.toList f with
  |some sg=>Cu C sg.type cs sg.offset
  |none=>none)
 |_,_=>none
def TV(t:Nat)(x i:Operand)(_:S ai)(au:Operand->Option z):Option z:=
 match au x,au i with|some E,some b=>LK C t E b|_,_=>none
def TW(t:Nat)(m o:Operand)(ok:Bool)(h:S ai)(au:Operand->Option z):Option z:=
 match au m,au o with|some E,some b=>LN C h t E b ok|_,_=>none
def Kj(x:Operand)(um:Nat)(ok:Bool)(_:S ai)(au:Operand->Option z):Option z:=
 match C.P.underlying um,au x with
 |some (.interface _),_=>none
 |some _,some .nilIface=>bI (ok) ((match pY C um with|some aG=>some (.tuple [aG, .bool false])|none=>none))<|none
 |some _,some (.iface t v)=>bI (Nat.beq t um) (some (bI (ok) (.tuple [v, .bool true])<|v))<|bI (ok) ((match pY C um with|some aG=>some (.tuple [aG, .bool false])|none=>none))<|none
 |_,_=>none
def TS(b:Builtin)(args:Array Operand)(cL:Array TypeId)(h:S ai)(au:Operand->Option z):Option z:=
 match b,pz au args.toList with
 | .len,some [x]=>(match cL.toList with|t::_=>LM C h t x|_=>none)
 | .cap,some [x]=>(match cL.toList with|t::_=>LG C t x|_=>none)
 | .max,some (x::k)=>oU true x k
 | .min,some (x::k)=>oU false x k
 |_,_=>none
def TT(c:Call)(h:S ai)(au:Operand->Option z):Option z:=
 match c with
 |⟨.builtin b,args,cL⟩=>TS C b args cL h au
 |_=>none
def Ko:List Nat->Option Nat
 |[]=>none
 |E::k=>match k with|[]=>some E|_=>Ko k
def AT(b:Nat):List (z×z×Nat)->Option (z×z×Nat)
 |[]=>none
 |B::a1=>bI (Nat.beq B.2.2 b) (some B) (AT b a1)
def Kl(d7:Operand)(h:S ai)(au:Operand->Option z):Option z:=
 match au d7 with
 |some (.ptr r 0)=>(match Z C h r with
  |some (.kB (some m) _ seen lj)=>(match Ko seen,Z C h m with
   |some rD,some (.map a1 dn)=>bI (Nat.beq dn lj) (match AT rD a1 with
    |some (o,v,_)=>some (.tuple [o,v])
    |none=>none) none
   |_,_=>none)
  |some (.vj m _ _ _ lj lQ)=>(match lQ,Z C h m with
   |some rD,some (.map a1 dn)=>bI (Nat.beq dn lj) (match AT rD a1 with
    |some (o,v,_)=>some (.tuple [o,v])
    |none=>none) none
   |_,_=>none)
  |_=>none)
 |_=>none
def n5(U:Op):aK->S ai->(Operand->Option z)->Option z:=
 match U with
 | .build t j9=>λC=>TR C t j9
 | .binOp op t x e _=>λC=>Og C op t x e
 | .unOp op _ x=>λ_=>TY op x
 | .convert s d x=>λC=>Kk C s d x
 | .makeInterface t x=>λC=>Kn C t x
 | .makeFunc fn first fw=>λ_=>TU fn first fw
 | .slice t x bC aA g6=>λC=>TX C t x bC aA g6
 | .field t x f=>λC=>Km C t x f
 | .index t x i=>λC=>TV C t x i
 | .lookup t m o ok=>λC=>TW C t m o ok
 | .typeAssert x _ um ok=>λC=>Kj C x um ok
 | .entry d7=>λC=>Kl C d7
 | .call c=>λC=>TT C c
 |_=>λ_ _ _=>none
def B6(c:jS):Bool:=match c with
 | .fq _| .Bz _ _=>true
 | .h9 _ U=>(match U with
   | .lookup .. | .convert .. | .slice .. | .call _| .binOp .. | .entry _=>true
   |_=>false)
 |_=>false
def D1(t:Nat)(_:Operand->Option z)(b:Nat):Option (z×ai):=
 match pY C t with|some aG=>some (.ptr b 0, .cells (S.ofList aG.cells 0 .nil) aG.cells.length .own)|none=>none
def Ku(x:Operand)(au:Operand->Option z)(b:Nat):Option (z×ai):=
 match au x with|some v=>some (.ptr b 0, .cells (S.ofList v.cells 0 .nil) v.cells.length .own)|none=>none
def Kv(t len:Nat)(j9:Array (Nat×Operand))(au:Operand->Option z)(b:Nat):Option (z×ai):=
 match C.P.underlying t,xO au j9.toList with
 |some (.slice dO),some df=>(match iC C dO,pY C dO with
  |some s,some aG=>bI (Nat.ble (len*s) 16777216&&Nat.beq aG.cells.length s) ((match AS (λi=>some (i*s,s)) (jD len aG.cells) df with
    |some cs=>some (.slice b 0 len len, .cells (S.ofList cs 0 .nil) cs.length .own)
    |none=>none))<|none
  |_,_=>none)
 |_,_=>none
def p1(U:Op):aK->(Operand->Option z)->Nat->Option (z×ai):=
 match U with
 | .alloc t=>λC=>D1 C t
 | .box _ x=>λ_=>Ku x
 | .buildSlice t len j9=>λC=>Kv C t len j9
 | .makeMap _ none=>λ_ _ b=>some (.map b, .map [] 0)
 |_=>λ_ _ _=>none
def l1:List Nat->S ai->S ai
 |[],a=>a
 |b::k,a=>l1 k (bp C a b none)
def dM:S z->Nat->List z->S z
 |c,_,[]=>c
 |c,U,v::k=>jt (c.set U (some v)) λc=>dM c (U+1) k
def oA(v:z):Bool:=match v with| .agg _=>false| .tuple _=>false|_=>true
def hZ:List z->Bool
 |[]=>true
 |v::k=>oA v&&hZ k
def lJ(h:S ai)(b U:Nat)(aY:List z):Option (S ai):=
 match Z C h b with
 |some (.cells c n st)=>bI (Nat.ble (U+aY.length) n&&jI C b&&hZ aY) ((match st with
   | .own=>jt (dM c U aY) λc=>jt (bp C h b (some (.cells c n .own))) λh=>some h
   | .marked=>jt (dM c U aY) λc=>jt (bp C h b (some (.cells c n .marked))) λh=>some h
   | .grow et=>jt (dM c U aY) λc=>jt (bp C (l1 C et h) b (some (.cells c n (.grow [])))) λh=>some h
   |_=>none))<|none
 |_=>none
def jN(h:S ai)(aR:Nat)(x:z):Option (Nat×List z):=
 match x with
 | .a2=>some (0,[])
 | .slice b U len _=>(match kt C h b U (len*aR)with|some k=>some (len,k)|none=>none)
 | .el b U len _=>(match kt C h b U (len*aR)with|some k=>some (len,k)|none=>none)
 | .str s=>bI (Nat.beq aR 1) (some (s.length,s.map λn=>z.int .u8 (Int.ofNat n))) none
 |_=>none
inductive dL where
 |val (v:z)
 |e2 (v:z) (h:S ai) (j:Nat)
 |enter (f:Nat) (args:List z)
 |known (f:Nat) (args:List z) (v:z)
 |wrote (f:Nat) (args:List z) (h:S ai)
 |round (k:Nat) (args:List z)
 |defer (d:hE)
 |recover
 |panic (v:z)
 |fork (k:List (z×S ai))
def na(C:aK)(h:S ai)(j:Nat)(U:ai)(o:Nat->z):Option dL:=
 p6 j λj=>jt (bp C h j (some U)) λh=>some (.e2 (o j) h (j+1))
def ts(h:S ai)(j n aR:Nat)(k:List z):Option dL:=
 bI (Nat.ble n 1048576) (na C h j (.cells (S.ofList k 0 .nil) k.length (.grow [])) λb=> .el b 0 n aR)<|none
def Ic(h:S ai)(j:Nat)(b U len aR n:Nat)(k:List z):Option dL:=
 match Z C h b with
 |some (
   .cells c size (.grow et))=>bI (jI C b)
  (bI (
   Nat.ble (U+(len+n)*aR) size)
   (match lJ C h b (U+len*aR) k with|some R=>some (.e2 (.el b U (len+n) aR) R j)|none=>none)
   (bI (Nat.ble (len+n) 1048576&&hZ k) (bI (Nat.beq (U+len*aR) size&&Nat.beq U 0)
    (jt (dM c size k) λgp=>na C (bp C h b (some (.cells c size .jO))) j (.cells gp (size+k.length) (.grow (b::et))) λdw=> .el dw 0 (len+n) aR)
    (match c.kh U (len*aR)with
    |some fH=>na C (bp C (l1 C et h) b none) j (.cells (S.ofList (fH++k) 0 .nil) (fH++k).length (.grow [])) λdw=> .el dw 0 (len+n) aR
    |none=>none)) none)) none
 |_=>none
def xA(h:S ai)(j:Nat)(aR n:Nat)(k:List z)(s:z):Option dL:=
 match s with
 | .a2=>ts C h j n aR k
 | .slice b U len cap=>bI (Nat.ble (len+n) cap) ((match lJ C h b (U+len*aR) k with|some R=>some (.e2 (.slice b U (len+n) cap) R j)|none=>none))<|(match kt C h b U (len*aR)with
    |some fH=>ts C h j (len+n) aR (fH++k)
    |none=>none)
 | .el b U len w8=>bI (Nat.beq w8 aR) (Ic C h j b U len aR n k)<|none
 |_=>none
def Ay(h:S ai)(aR:Nat)(s:z):Option dL:=
 match s with
 | .a2=>some (.val .a2)
 | .slice b U len cap=>bI (Nat.ble len cap) (some (.val (.slice b U len cap))) none
 | .el b U len w8=>bI (Nat.beq w8 aR) (match tW C h b with
   |some n=>bI (Nat.ble (U+len*aR) n) (some (.val (.el b U len w8))) none
   |none=>none) none
 |_=>none
def LJ(h:S ai)(j:Nat)(st:Nat)(s:z)(n:Nat):Option dL:=
 match C.P.underlying st with
 |some (.slice dO)=>(match C.P.info? dO,pY C dO with
  |some i,some aG=>bI (Nat.blt 0 i.size&&Nat.ble i.bytes 65536&&Nat.beq aG.cells.length i.size&&Nat.ble n 1048576) (bI (Nat.beq n 0) (Ay C h i.size s)<|xA C h j i.size n (jD n aG.cells) s)<|none
  |_,_=>none)
 |_=>none
def ahg(i:TypeInfo):Bool:=match i.zero with|some aG=>Nat.beq aG.cells.size i.size|none=>false
def Fu(h:S ai)(j:Nat)(st:Nat)(s x:z):Option dL:=
 match C.P.underlying st with
 |some (.slice dO)=>(match C.P.info? dO with
  |some i=>(match jN C h i.size x with
   |some (n,k)=>bI (Nat.blt 0 i.size&&Nat.ble i.bytes 65536&&ahg i) ((bI (Nat.beq n 0) (Ay C h i.size s)<|xA C h j i.size n k s))<|none
   |none=>none)
  |none=>none)
 |_=>none
def L7(h:S ai)(j:Nat)(b U m:Nat)(k:List z):Option dL:=
 bI (Nat.beq m 0) (some (.val (.int .i64 0)))<|
 (match lJ C h b U k with|some R=>some (.e2 (.int .i64 (Int.ofNat m)) R j)|none=>none)
def LH(h:S ai)(j:Nat)(st:Nat)(d x:z):Option dL:=
 match C.P.underlying st with
 |some (.slice dO)=>(match iC C dO with
  |some aR=>(match jN C h aR x with
   |some (n,k)=>(match d with
    | .a2=>some (.val (.int .i64 0))
    | .slice b U len _=>L7 C h j b U (min n len) (k.take (min n len*aR))
    | .el b U len _=>L7 C h j b U (min n len) (k.take (min n len*aR))
    |_=>none)
   |none=>none)
  |none=>none)
 |_=>none
def H4(h:S ai)(j:Nat)(t:Nat)(x:z):Option dL:=
 match C.P.underlying t with
 |some (.slice dO)=>(match iC C dO,pY C dO with
  |some aR,some aG=>bI (Nat.beq aG.cells.length aR) (match x with
   | .a2=>some (.val (.tuple []))
   | .slice b U len _=>bI (Nat.beq len 0) (some (.val (.tuple []))) (match lJ C h b U (jD len aG.cells)with|some h=>some (.e2 (.tuple []) h j)|none=>none)
   | .el b U len _=>bI (Nat.beq len 0) (some (.val (.tuple []))) (match lJ C h b U (jD len aG.cells)with|some h=>some (.e2 (.tuple []) h j)|none=>none)
   |_=>none) none
  |_,_=>none)
 |_=>none
def setObj(h:S ai)(j:Nat)(r:Nat)(U:ai)(v:z):Option dL:=
 bI (jI C r) (jt (bp C h r (some U)) λh=>some (.e2 v h j))<|none
def H6(h:S ai)(j:Nat)(t:Nat)(m o v:z):Option dL:=
 match C.P.underlying t,m with
 |some (.map hx _), .map r=>(match Z C h r with
  |some (.map a1 dn)=>bI (mv C 20 hx o) (match findKey C h hx o a1 0 with
   |some (some (i,_))=>(match pM a1 i with
    |some (eA,_,born)=>bI (ov 20 eA o) (setObj C h j r (.map (a1.set i (o,v,born)) dn) undef) none
    |none=>none)
   |some none=>setObj C h j r (.map (a1++[(o,v,dn)]) (dn+1)) undef
   |none=>none) none
  |_=>none)
 |_,_=>none
def LI(h:S ai)(j:Nat)(t:Nat)(m o:z):Option dL:=
 match C.P.underlying t,m with
 |some (.map hx _), .map r=>(match Z C h r with
  |some (.map a1 dn)=>bI (mv C 20 hx o) (match findKey C h hx o a1 0 with
   |some (some (i,_))=>setObj C h j r (.map (a1.eraseIdx i) dn) (.tuple [])
   |some none=>setObj C h j r (.map a1 dn) (.tuple [])
   |none=>none) none
  |_=>none)
 |_,_=>none
def OO(x e:z):Bool:=match x,e with
    | .bool E, .bool b=>LY E b
    | .int o E, .int eA b=>lx o eA&&tJ E b
    | .str E, .str b=>mL E b
    | .a2, .a2=>true
    | .cW, .cW=>true
    | .nilIface, .nilIface=>true
    |_,_=>false
def Eo:List z->List z->Bool
 |[],[]=>true
 |E::x,b::e=>OO E b&&Eo x e
 |_,_=>false
def known(f:Nat)(args:List z):List (Nat×List z×z)->Option z
 |[]=>none
 |(g,cg,v)::k=>bI (Nat.beq f g&&Eo args cg) (some v)<|known f args k
def r8(f:Nat)(args:List z):Option dL:=
 match C.g7 f args with
 |some v=>some (.known f args v)
 |none=>(match C.P.funcs[f]? with
  |some fn=>(match fn.body with
   |some _=>some (.enter f args)
   |none=>none)
  |none=>none)
def DG(x:Int):List Int->List Int
 |[]=>[x]
 |e::k=>bI (wJ e x) (e::DG x k) (x::e::k)
def ib:List Int->List Int
 |[]=>[]
 |x::k=>DG x (ib k)
def GQ(f:Nat):Bool:=match C.P.funcs[f]? with
 |some fn=>bI (Nat.beq fn.params.size 1) (fn.name== "slices.Sort[[]int,int]") false
 |none=>false
def DH:List z->Option (List Int)
 |[]=>some []
 | .int .i64 n::k=>(match DH k with|some r=>some (n::r)|none=>none)
 |_=>none
def H9(h:S ai)(b U len:Nat):Option (S ai):=match kt C h b U len with
 |some k=>(match DH k with
  |some bH=>bI (Nat.blt 0 len&&Nat.ble len 1000000) (lJ C h b U ((ib bH).map λaG=> .int .i64 aG)) none
  |none=>none)
 |none=>none
def Ct(h:S ai)(cg:List z):Option (S ai):=match cg with
 |[.a2]=>some h
 |[.slice b U len _]=>H9 C h b U len
 |[.el b U len _]=>H9 C h b U len
 |_=>none
def Av(fn:Fn)(fw args:List z):Option dL:=
 match fn with
 | .func f=>r8 C f (args++fw)
 | .yield k=>some (.round k args)
 |_=>none
def Fv(h:S ai)(t:Nat)(v:z)(name:String)(args:List z):Option dL:=
 match C.P.info? t with
 |some i=>(match i.methods.find? (·.name==name)with
  |some m=>bI m.path.isEmpty (match m.func,C.P.underlying t with
   |some (f,true),some (.pointer _)=>r8 C f (v::args)
   |some (f,false),some (.pointer B)=>(match pv C h B v with|some x=>r8 C f (x::args)|none=>none)
   |some (f,false),some _=>r8 C f (v::args)
   |_,_=>none) none
  |none=>none)
 |none=>none
def Pe(h:S ai)(j s:Nat)(E v:z):Option dL:=
 match E with
 | .ptr b U=>bI (Nat.beq v.cells.length s&&Nat.blt 0 s) ((match lJ C h b U v.cells with|some R=>some (.e2 undef R j)|none=>none))<|none
 |_=>none
def Ga(t:Nat)(m o x:Operand)(h:S ai)(j:Nat)(au:Operand->Option z):Option dL:=
 match au m,au o,au x with
 |some m,some o,some v=>H6 C h j t m o v
 |_,_,_=>none
def I2(t:Nat)(m o:Operand)(h:S ai)(j:Nat)(au:Operand->Option z):Option dL:=
 match C.P.underlying t,au m,au o with
 |some (.map hx ti),some (.map r),some o=>(match Z C h r with
  |some (.map a1 dn)=>bI (mv C 20 hx o) (match findKey C h hx o a1 0 with
   |some (some (i,v))=>(match pM a1 i with
    |some (eA,fd,born)=>bI (ov 20 eA o) (setObj C h j r (.map (a1.set i (o,fd,born)) dn) (.tuple [v, .int .i64 (Int.ofNat born)])) none
    |none=>none)
   |some none=>(match pY C ti with
    |some aG=>setObj C h j r (.map (a1++[(o,aG,dn)]) (dn+1)) (.tuple [aG, .int .i64 (Int.ofNat dn)])
    |none=>none)
   |none=>none) none
  |_=>none)
 |_,_,_=>none
def IV(m s x:Operand)(h:S ai)(j:Nat)(au:Operand->Option z):Option dL:=
 match au m,au s,au x with
 |some (.map r),some (.int _ (.ofNat born)),some v=>(match Z C h r with
  |some (.map a1 dn)=>(match a1.findIdx? (λB=>Nat.beq B.2.2 born)with
   |some i=>(match pM a1 i with
    |some (o,_,b)=>setObj C h j r (.map (a1.set i (o,v,b)) dn) undef
    |none=>none)
   |none=>none)
  |_=>none)
 |_,_,_=>none
def I1(t:Nat)(k c:Operand)(h:S ai)(j:Nat)(au:Operand->Option z):Option dL:=
 match C.P.underlying t,au k,au c with
 |some (.slice dO),some k,some c=>(match nS k,nS c,C.P.info? dO,pY C dO with
  |some k,some c,some i,some aG=>bI (Nat.ble k c&&Nat.ble c 1048576&&Nat.ble i.bytes 65536&&Nat.blt 0 i.size&&Nat.beq aG.cells.length i.size) (na C h j (.cells (S.ofList (jD c aG.cells) 0 .nil) (c*i.size) .own) λb=> .slice b 0 k c)<|none
  |_,_,_,_=>none)
 |_,_,_=>none
def I0(t:Nat)(r:Operand)(h:S ai)(j:Nat)(au:Operand->Option z):Option dL:=
 match C.P.underlying t,au r with
 |some (.map _ _),some (.int _ _)=>na C h j (.map [] 0) λb=> .map b
 |_,_=>none
def I5(s d:Nat)(x:Operand)(h:S ai)(j:Nat)(au:Operand->Option z):Option dL:=
 match C.P.underlying s,C.P.underlying d,au x with
 |some .string,some (.slice B),some (.str k)=>(match C.P.underlying B with
  |some (.int .u8)=>ts C h j k.length 1 (k.map λn=>z.int .u8 (Int.ofNat n))
  |_=>none)
 |some (.slice _),some (.slice B),some (.slice b U len cap)=>(match C.P.underlying B with
  |some (.int .u8)=>bI (Nat.beq s d&&jI C b) (match Z C h b with
   |some (.cells c n .own)=>jt (bp C h b (some (.cells c n .marked))) λh=>some (.e2 (.slice b U len cap) h j)
   |some (.cells _ _ .marked)=>some (.val (.slice b U len cap))
   |_=>none) none
  |_=>none)
 |_,_,_=>none
def I3(t:Nat)(x:Operand)(h:S ai)(j:Nat)(au:Operand->Option z):Option dL:=
 match C.P.underlying t,au x with
 |some .string,some (.str s)=>na C h j (.oF s 0) λb=> .ptr b 0
 |some (.map _ _),some .mf=>na C h j (.kB none 0 [] 0) λb=> .ptr b 0
 |some (.map _ _),some (.map r)=>(match Z C h r with
  |some (.map _ dn)=>na C h j (.kB (some r) dn [] dn) λb=> .ptr b 0
  |_=>none)
 |_,_=>none
def oz(n:Nat):List Nat->Bool
 |[]=>false
 |E::k=>Nat.beq n E||oz n k
def hN(seen:List Nat):List (z×z×Nat)->List (z×z×Nat)
 |[]=>[]
 |B::a1=>bI (oz B.2.2 seen) (hN seen a1) (B::hN seen a1)
def Ax(eL:Nat):List (z×z×Nat)->Bool
 |[]=>true
 |B::a1=>Nat.blt B.2.2 eL&&Ax eL a1
def xz(eL:Nat):List (z×z×Nat)->Bool
 |[]=>false
 |B::a1=>Nat.blt B.2.2 eL||xz eL a1
def MA(C:aK)(h:S ai)(r m eL dn:Nat)(seen:List Nat):List (z×z×Nat)->List (z×S ai)
 |[]=>[]
 |(o,v,b)::k=>(.tuple [.bool true,o,v],bp C h r (some (.kB (some m) eL (seen++[b]) dn)))::MA C h r m eL dn seen k
def FF:List (z×z×Nat)->List Nat->Bool
 |[],[]=>true
 |B::a1,b::cj=>Nat.beq B.2.2 b&&FF a1 cj
 |_,_=>false
def L6(C:aK)(h:S ai)(r:Nat)(U:Option Nat->ai):List (z×z×Nat)->List (z×S ai)
 |[]=>[]
 |(o,v,b)::k=>(.tuple [.bool true,o,v],bp C h r (some (U (some b))))::L6 C h r U k
def wk(d7:Operand)(yC:Bool)(h:S ai)(j:Nat)(au:Operand->Option z):Option dL:=
 match au d7 with
 |some (.ptr r 0)=>bI (jI C r) (match Z C h r,yC with
  |some (.oF s pos),true=>bI (Nat.blt pos s.length) (match pM s pos with
    |some c=>bI (Nat.blt c 128) (setObj C h j r (.oF s (pos+1)) (.tuple [.bool true, .int .i64 (Int.ofNat pos), .int .i32 (Int.ofNat c)])) none
    |none=>none)
   (some (.val (.tuple [.bool false])))
  |some (.kB none _ _ _),false=>some (.val (.tuple [.bool false]))
  |some (.kB (some m) eL seen lj),false=>(match Z C h m with
   |some (.map a1 dn)=>(match hN seen a1 with
    |[]=>bI (Ax eL a1) (bI (xz lj a1||seen.isEmpty||a1.isEmpty) (some (.val (.tuple [.bool false]))) none) none
    |[(o,v,b)]=>bI (Ax eL a1&&xz lj a1) (setObj C h j r (.kB (some m) eL (seen++[b]) dn) (.tuple [.bool true,o,v])) none
    |k=>bI (Ax eL a1&&xz lj a1) (some (.fork (MA C h r m eL dn seen k))) none)
   |_=>none)
  |some (.vj m eL n cj st _),false=>(match Z C h m with
   |some (.map a1 dn)=>bI ((FF a1 cj&&Nat.beq st dn)&&(Ax eL a1&&xz st a1)) (match n with
    |0=>some (.val (.tuple [.bool false]))
    |n+1=>some (.fork ((.tuple [.bool false],h)::L6 C h r (.vj m eL n cj st) a1))) none
   |_=>none)
  |_,_=>none) none
 |_=>none
def RW(x:Operand)(_:S ai)(_:Nat)(au:Operand->Option z):Option dL:=
 match au x with|some (.iface t v)=>some (.panic (.iface t v))|_=>none
def RK(c:Call)(_:S ai)(_:Nat)(au:Operand->Option z):Option dL:=
 match c with
 |⟨.value f,args,_⟩=>(match au f,pz au args.toList with
  |some (.func fn first fw),some cg=>some (.defer ⟨.fn fn fw,first++cg⟩)
  |_,_=>none)
 |_=>none
def IR(b:Builtin)(args:Array Operand)(cL:Array TypeId)(h:S ai)(j:Nat)(au:Operand->Option z):Option dL:=
 match b,pz au args.toList with
 | .append,some [s,x]=>(match cL.toList with
   |st::iD::_=>(match C.P.underlying iD with
    |some (.int _)=>(match nS x with|some n=>LJ C h j st s n|none=>none)
    |some (.slice _)=>Fu C h j st s x
    |some .string=>Fu C h j st s x
    |_=>none)
   |_=>none)
 | .copy,some [d,x]=>(match cL.toList with
   |st::_=>LH C h j st d x
   |_=>none)
 | .recover,some []=>some .recover
 | .clear,some [x]=>(match cL.toList with
   |t::_=>H4 C h j t x
   |_=>none)
 | .delete,some [m,o]=>(match cL.toList with
   |t::_=>LI C h j t m o
   |_=>none)
 |_,_=>none
def CZ(c:Call)(h:S ai)(j:Nat)(au:Operand->Option z):Option dL:=
 match c with
 |⟨.value f,args,_⟩=>(match au f,pz au args.toList with
  |some (.func fn first fw),some cg=>Av C fn fw (first++cg)
  |_,_=>none)
 |⟨.builtin b,args,cL⟩=>IR C b args cL h j au
 |⟨.invoke r name,args,_⟩=>(match au r,pz au args.toList with
  |some (.iface t v),some cg=>Fv C h t v name cg
  |_,_=>none)
def nx(U:Op):aK->S ai->Nat->(Operand->Option z)->Option dL:=
 match U with
 | .mapUpdate t m o x=>λC=>Ga C t m o x
 | .insert t m o x=>λC=>Ga C t m o x
 | .mapEntry t m o=>λC=>I2 C t m o
 | .entryStore _ m s x=>λC=>IV C m s x
 | .makeSlice t k c=>λC=>I1 C t k c
 | .makeMap t (some r)=>λC=>I0 C t r
 | .convert s d x=>λC=>I5 C s d x
 | .range t x=>λC=>I3 C t x
 | .next d7 yC=>λC=>wk C d7 yC
 | .panic x=>λ_=>RW x
 | .defer c=>λ_=>RK c
 | .call c=>λC=>CZ C c
 |_=>λ_ _ _ _=>none
end ao
def k5(x:kq):List (Nat×z)->S z->Option z:=
 match x with
 | .v W=>λan _=>ee an W
 | .t n=>λ_ I=>I.get n
 | .c E=>λ_ _=>some E
def AQ(an:List (Nat×z))(I:S z):List kq->Option (List z)
 |[]=>some []
 |x::k=>match k5 x an I with
  |none=>none
  |some v=>match AQ an I k with
   |none=>none
   |some r=>some (v::r)
def ji(bY:List (Nat×Nat))(an:List (Nat×z))(I:S z)(U:Operand):Option z:=match U with
 | .tmp t=>(match ee bY t with|some W=>ee an W|none=>I.get t)
 | .const v=>Eg v
 | .global g=>some (.ptr g 0)
 | .func f=>some (.func (.func f) [] [])
def iq(d:Nat)(v:z):Option z:=match v with| .ptr b U=>some (.ptr b (U+d))|_=>none
def PA(c:z)(E b:kq)(an:List (Nat×z))(I:S z):Option z:=match c with
 | .bool c=>bI c (k5 E an I) (k5 b an I)
 |_=>none
def Li(n aR:Nat)(x:z)(i:Nat):Option z:=match x with| .ptr b U=>bI (Nat.blt i n) (some (.ptr b (U+i*aR))) none|_=>none
def Cc(aR:Nat)(x:z)(i:Nat):Option z:=match x with
 | .slice b U len _=>bI (Nat.blt i len) (some (.ptr b (U+i*aR))) none
 | .el b U len _=>bI (Nat.blt i len) (some (.ptr b (U+i*aR))) none
 |_=>none
def pn(v:z):Option z:=match v with
 | .ptr b U=>some (.ptr b U)
 | .func fn E b=>(match fn with| .func f=>some (.func (.func f) E b)| .yield f=>some (.func (.yield f) E b)|_=>none)
 | .iface t v=>some (.iface t v)
 |_=>none
def rJ(i:Nat)(v:z):Option z:=match v with| .tuple aY=>pM aY i|_=>none
def gJ(U:jS):aK->S ai->List (Nat×z)->S z->Option z:=
 match U with
 | .D5 x=>λ_ _=>k5 x
 | .pick c E b=>λ_ _ an I=>(match k5 c an I with|some c=>PA c E b an I|none=>none)
 | .fq E=>λC h an I=>(match k5 E an I with|some E=>aV C h E|none=>none)
 | .Bz n E=>λC h an I=>(match k5 E an I with|some E=>ep C h n E|none=>none)
 | .off d x=>λ_ _ an I=>(match k5 x an I with|some E=>iq d E|none=>none)
 | .Bq n aR x i=>λ_ _ an I=>(match k5 x an I with|some E=>(match k5 i an I with|some i=>(match nS i with|some i=>Li n aR E i|none=>none)|none=>none)|none=>none)
 | .Br aR x i=>λ_ _ an I=>(match k5 x an I with|some E=>(match k5 i an I with|some i=>(match nS i with|some i=>Cc aR E i|none=>none)|none=>none)|none=>none)
 | .Eb x=>λ_ _ an I=>(match k5 x an I with|some E=>pn E|none=>none)
 | .J6 op x e=>λ_ _ an I=>(match k5 x an I with|some E=>(match k5 e an I with|some b=>bm op E b|none=>none)|none=>none)
 | .ext i x=>λ_ _ an I=>(match k5 x an I with|some E=>rJ i E|none=>none)
 | .h9 bY U=>λC h an I=>n5 U C h (ji bY an I)
 |_=>λ_ _ _ _=>none
def oc(U:jS):aK->Nat->List (Nat×z)->S z->Option (z×ai):=
 match U with
 | .make bY U=>λC b an I=>p1 U C (ji bY an I) b
 |_=>λ_ _ _ _=>none
def hH(U:jS):aK->S ai->Nat->List (Nat×z)->S z->Option dL:=
 match U with
 | .st n E v=>λC h j an I=>(match k5 E an I with|some E=>(match k5 v an I with|some v=>Pe C h j n E v|none=>none)|none=>none)
 | .call f args=>λC h _ an I=>(match AQ an I args with|some cg=>bI (GQ C f) (match Ct C h cg with|some R=>some (.wrote f cg R)|none=>none) (r8 C f cg)|none=>none)
 | .fg bY U=>λC h j an I=>nx U C h j (ji bY an I)
 |_=>λ_ _ _ _ _=>none
inductive ahu where|h9|make|fg
def mG(U:jS):ahu:=match U with
 | .st .. => .fg| .call .. => .fg| .fg .. => .fg
 | .make .. => .make
 |_=> .h9
def Om(U:jS)(C:aK)(h:S ai)(j:Nat)(an:List (Nat×z))(I:S z):Option dL:=
 p6 j λj=>(match oc U C j an I with|some (v,cN)=>jt (bp C h j (some cN)) λh=>some (.e2 v h (j+1))|none=>none)
def fm(m i:Nat):Bool:=Nat.beq (Nat.mod (Nat.div m (Nat.pow 2 i)) 2) 1
def mS(bY:List (Nat×Nat))(U:Operand):Option kq:=match U with
 | .tmp t=>(match ee bY t with|some W=>some (.v W)|none=>some (.t t))
 | .const v=>(match Eg v with|some E=>some (.c E)|none=>none)
 | .global g=>some (.c (.ptr g 0))
 | .func f=>some (.c (.func (.func f) [] []))
def Hz(bY:List (Nat×Nat)):List Operand->Option (List kq)
 |[]=>some []
 |x::k=>match mS bY x,Hz bY k with|some v,some r=>some (v::r)|_,_=>none
def at3(C:aK)(s d:Nat):Bool:=match C.P.underlying s,C.P.underlying d with
 |some .string,some (.slice _)=>true
 |some (.slice _),some (.slice _)=>true
 |_,_=>false
def atY(C:aK)(t:Nat):Bool:=match C.P.underlying t with|some (.int _)=>true|_=>false
def lO(C:aK)(bY:List (Nat×Nat))(U:Op):Option jS:=
 match U with
 | .move x| .assign x=>(match mS bY x with|some x=>some (.D5 x)|none=>none)
 | .pick c E b=>(match mS bY c,mS bY E,mS bY b with|some c,some E,some b=>some (.pick c E b)|_,_,_=>none)
 | .load t E=>(match mS bY E,DI C t,iC C t with
   |some E,some true,some s=>some (.Bz s E)
   |some E,some false,_=>some (.fq E)
   |_,_,_=>none)
 | .fieldAddr s x f=>(match C.P.underlying s,mS bY x with
   |some (.struct jZ),some x=>(match pM jZ.toList f with
    |some sg=>(match iC C sg.type with|some aG=>bI (Nat.beq aG 0) (none)<|some (.off sg.offset x)|none=>none)
    |none=>none)
   |_,_=>none)
 | .indexAddr t x i=>(match C.P.underlying t,mS bY x,mS bY i with
   |some (.array n dO),some x,some i=>(match iC C dO with|some aR=>some (.Bq n aR x i)|none=>none)
   |some (.slice dO),some x,some i=>(match iC C dO with|some aR=>some (.Br aR x i)|none=>none)
   |_,_,_=>none)
 | .nilCheck x=>(match mS bY x with|some x=>some (.Eb x)|none=>none)
 | .binOp op t x e HF=>bI (atY C t) ((match mS bY x,mS bY e with|some x,some e=>some (.J6 op x e)|_,_=>none))<|some (.h9 bY (.binOp op t x e HF))
 | .extract x i=>(match mS bY x with|some x=>some (.ext i x)|none=>none)
 | .store t E x=>(match mS bY E,mS bY x,iC C t with|some E,some x,some s=>some (.st s E x)|_,_,_=>none)
 | .call ⟨.value (.func f),args,cL⟩=>(match Hz bY args.toList with|some cg=>some (.call f cg)|none=>none)
 | .call ⟨.builtin b,args,cL⟩=>(match b with
   | .len| .cap| .max| .min=>some (.h9 bY (.call ⟨.builtin b,args,cL⟩))
   |_=>some (.fg bY (.call ⟨.builtin b,args,cL⟩)))
 | .call c=>some (.fg bY (.call c))
 | .convert s d x=>bI (at3 C s d) (some (.fg bY (.convert s d x)))<|some (.h9 bY (.convert s d x))
 | .alloc t=>some (.make bY (.alloc t))
 | .box t x=>some (.make bY (.box t x))
 | .buildSlice t k p=>some (.make bY (.buildSlice t k p))
 | .makeMap t none=>some (.make bY (.makeMap t none))
 | .makeMap t (some r)=>some (.fg bY (.makeMap t (some r)))
 | .mapUpdate t m o x=>some (.fg bY (.mapUpdate t m o x))
 | .insert t m o x=>some (.fg bY (.insert t m o x))
 | .mapEntry t m o=>some (.fg bY (.mapEntry t m o))
 | .entryStore t m s x=>some (.fg bY (.entryStore t m s x))
 | .makeSlice t k c=>some (.fg bY (.makeSlice t k c))
 | .range t x=>some (.fg bY (.range t x))
 | .next i s=>some (.fg bY (.next i s))
 | .panic x=>some (.fg bY (.panic x))
 | .defer c=>some (.fg bY (.defer c))
 |U=>some (.h9 bY U)
def v6(W:Nat):List (Nat×Nat)->Option Nat
 |[]=>none
 |(t,i)::k=>bI (Nat.beq i W) (some t)<|v6 W k
def Ik(wr:List (Nat×Nat))(g:Option (Nat×Bool)):Option (Option (Nat×Bool)):=match g with
 |none=>some none
 |some (W,lF)=>(match v6 W wr with
  |some t=>(match ee wr t with
   |some pa=>bI (Nat.beq W pa) (some (some (W,lF)))<|none
   |none=>none)
  |none=>none)
def xx(U:Oper)(i:Nat)(wr:List (Nat×Nat)):List (Nat×Nat):=match U.dst with|some d=>(d,i)::wr|none=>wr
def Mi(n:Nat)(U:Oper):Bool:=match U.dst with|some d=>Nat.blt d n|none=>true
def yO(C:aK)(am:Nat)(bY:List (Nat×Nat))(U:Operand):Bool:=match U with
 | .tmp t=>(match ee bY t with|some _=>true|none=>fm am t)
 | .global g=>Nat.blt g C.pf
 |_=>true
def Ei(C:aK)(am:Nat)(bY:List (Nat×Nat)):List Operand->Bool
 |[]=>true
 |x::k=>yO C am bY x&&Ei C am bY k
def sb(C:aK)(n am:Nat):List Oper->Nat->List (Nat×Nat)->Option (List fh)
 |[],_,_=>some []
 |U::k,i,wr=>p6 i λi=>match Ik wr U.guard,lO C wr U.op with
  |some g,some op=>bI (Mi n U&&Ei C am wr U.op.operands.toList) (match sb C n am k (i+1) (xx U i wr)with|some r=>some (⟨i,g,op⟩::r)|none=>none) none
  |_,_=>none
def k6(am:Nat):List Oper->Nat->List (Nat×Nat)
 |[],_=>[]
 |U::k,i=>match U.dst with
  |some d=>bI (fm am d) ((i,d)::k6 am k (i+1))<|k6 am k (i+1)
  |none=>k6 am k (i+1)
def dstsOf:List Oper->List Nat
 |[]=>[]
 |U::k=>match U.dst with|some d=>d::dstsOf k|none=>dstsOf k
structure PR where
 rest:List fh
 fin:List (Nat×Nat)
def Kz(C:aK)(n:Nat)(ao:Array Oper)(am:Nat):Option PR:=
 match sb C n am ao.toList 0 []with
 |some cs=>some ⟨cs,k6 am ao.toList 0⟩
 |none=>none
def Hh(U:Operand)(m:Nat):Nat:=match U with| .tmp t=>Nat.lor m (Nat.pow 2 t)|_=>m
def Hi(k:List Operand):Nat:=k.foldr Hh 0
def Iv(U:Oper):Nat:=match U.dst with|some d=>Nat.pow 2 d|none=>0
def MP(wr:List (Nat×Nat))(g:Option (Nat×Bool)):Nat:=match g with
 |none=>0
 |some (W,_)=>(match v6 W wr with|some t=>Nat.pow 2 t|none=>0)
def CK(iz:List (Nat×Nat))(B:Edge)(m:Nat):Nat:=
 bI (fm m B.on) (m)<|bI (Region.binds .any B) ((match ee iz B.on with|some o=>Nat.lor (Nat.lor m o) (Nat.pow 2 B.on)|none=>m))<|m
structure f9 where
 i:Nat
 m:Nat
 r:Nat
 w:Nat
def BK:List Oper->Nat->List (Nat×Nat)->List (Nat×Nat)->List f9
 |[],_,_,_=>[]
 |U::k,i,wr,iz=>p6 i λi=>p6 (U.after.toList.foldr (CK iz) 0) λm=>
  ⟨i,m,Nat.lor (Hi U.op.operands.toList) (MP wr U.guard),Iv U⟩::BK k (i+1) (xx U i wr) ((i,m)::iz)
def OG(E b:f9):Bool:=
 fm b.m E.i||(Nat.beq (Nat.land E.w (Nat.lor b.r b.w)) 0&&Nat.beq (Nat.land b.w E.r) 0)
def OI(E:f9):List f9->Bool
 |[]=>true
 |b::k=>OG E b&&OI E k
def KK:List f9->Bool
 |[]=>true
 |E::k=>OI E k&&KK k
def Jh:List f9->Bool
 |[]=>true
 |E::k=>(match k with|[]=>true|b::_=>fm b.m E.i)&&Jh k
def Eh:List Oper->Nat->Bool
 |[],_=>true
 |U::k,i=>U.after.toList.all (λB=> !Region.binds .any B||Nat.blt B.on i)&&Eh k (i+1)
def ur(m:Nat):List f9->Nat
 |[]=>0
 |a::k=>bI (fm m a.i) (Nat.succ (ur m k))<|ur m k
def Bb(i:Nat):List f9->Nat
 |[]=>0
 |a::k=>bI (fm a.m i) (0)<|Nat.succ (Bb i k)
structure pr where
 x:fh
 bC:Nat
 aA:Nat
def nP(U:jS):Bool:=match mG U with| .fg=>true|_=>false
def Gg:List f9->List fh->List (f9×fh)
 |p::df,c::cs=>bI (nP c.op) ((p,c)::Gg df cs)<|Gg df cs
 |_,_=>[]
def G3(aD:List f9):List f9->List fh->List pr
 |p::df,c::cs=>bI (nP c.op) (G3 aD df cs)<|⟨c,ur p.m aD,Bb p.i aD⟩::G3 aD df cs
 |_,_=>[]
def s9(o:Nat):List pr->List fh
 |[]=>[]
 |k::iy=>bI (Nat.beq k.bC o) (k.x::s9 o iy)<|s9 o iy
def Ew(o:Nat):List pr->List fh
 |[]=>[]
 |k::iy=>bI (Nat.blt k.bC o&&Nat.ble o k.aA&&B6 k.x.op) (k.x::Ew o iy)<|Ew o iy
def yL(iy:List pr):Nat->List (f9×fh)->List vL
 |o,[]=>[⟨s9 o iy,Ew o iy,none⟩]
 |o,(_,af)::k=>⟨s9 o iy,Ew o iy,some af⟩::yL iy (o+1) k
def p7:List (f9×fh)->List f9
 |[]=>[]
 |(p,_)::k=>p::p7 k
structure PQ where
 li:List vL
 fin:List (Nat×Nat)
def Ky(C:aK)(n:Nat)(ao:Array Oper)(am:Nat):Option PQ:=
 match sb C n am ao.toList 0 []with
 |none=>none
 |some cs=>(λall=>(λaD=>bI (Eh ao.toList 0&&KK all&&Jh (p7 aD)) (some ⟨yL (G3 (p7 aD) all cs) 0 aD,k6 am ao.toList 0⟩)<|none) (Gg all cs)) (BK ao.toList 0 [] [])
def aaQ:List Oper->Nat->Nat->Nat
 |[],_,r=>r
 |U::k,aar,r=>aaQ k (Nat.lor aar (Iv U)) ((λrd=>Nat.lor r (Nat.xor rd (Nat.land rd aar))) (Hi U.op.operands.toList))
def kj:Code->Nat
 | .region _ ao _=>aaQ ao.toList 0 0
 | .seq E b=>Nat.lor (kj E) (kj b)
 | .cond c E b=>Hh c (Nat.lor (kj E) (kj b))
 | .block _ b=>kj b
 | .loop b=>kj b
 | .scope b=>kj b
 | .rangeFunc f _ E b=>Hh f (Nat.lor (kj E) (kj b))
 |_=>0
def nU(k:List ResultVar):Nat:=k.foldr (λx r=>match x with| .tmp t=>Nat.lor r (Nat.pow 2 t)| .cell E _=>Nat.lor r (Nat.pow 2 E)) 0
def lP(C:aK)(am:Nat):Code->Bool
 | .seq E b=>lP C am E&&lP C am b
 | .cond c E b=>yO C am [] c&&(lP C am E&&lP C am b)
 | .block _ b=>lP C am b
 | .loop b=>lP C am b
 | .scope b=>lP C am b
 | .rangeFunc f _ E b=>yO C am [] f&&(lP C am E&&lP C am b)
 |_=>true
def yU(am:Nat):List ResultVar->Bool
 |[]=>true
 | .tmp t::k=>fm am t&&yU am k
 | .cell E _::k=>fm am E&&yU am k
end
end Go.bn
@[match_pattern]abbrev Go.bn.z.Z(x:Int):Go.bn.z:=.int .i64 x
@[match_pattern]abbrev Go.bn.z.zF:Go.bn.z:=.bool false
@[match_pattern]abbrev Go.bn.z.zT:Go.bn.z:=.bool true
namespace Go.bn
@[simp] def eU{α:Type _}(E b:α):bI true E b=E:=rfl
@[simp] def ku{α:Type _}(E b:α):bI false E b=b:=rfl
def eR{α:Type _}(c:Bool)(E b:α):bI c E b=if c=true then E else b:=by cases c<;>rfl
def hl{α:Type _}(x e:Nat)(E b:α):bI (Nat.beq x e) E b=if x=e then E else b:=by
 rw[eR];by_cases a:x=e
 ·rw[Zq a,Zq (Nat.beq_eq▸a)]
 ·rw[Zg a,Zg (λB=>a (Zj B))]
@[simp] def d6{α:Type _}(c:Bool)(E:Option α)(v:α):bI c E none=some v↔c=true/\E=some v:=by cases c<;>simp
@[simp] def l6{en:Type}(n:Nat)(o:Nat->en):p6 n o=o n:=by cases n<;>rfl
@[simp] def FT{en:Type}(n:Int)(o:Int->en):Rk n o=o n:=by
  cases n with
  |ofNat m=>exact l6 m λm=>o (.ofNat m)
  |negSucc m=>exact l6 m λm=>o (.negSucc m)
@[simp] def gS{α en:Type}(t:S α)(o:S α->en):jt t o=o t:=by cases t<;>rfl
@[simp] def alJ{α:Type}(W:Nat):ee ([]:List (Nat×α)) W=none:=rfl
def qO{α:Type}(E:Nat)(b:α)(k:List (Nat×α))(W:Nat):ee ((E,b)::k) W=if E=W then some b else ee k W:=by
 show bI (Nat.beq E W) (some b) (ee k W)=_
 rw[hl]
@[simp] def pN{α:Type}(k:List α):∀i,pM k i=k[i]? :=by
  induction k with
  |nil=>intro i;rfl
  |cons E k ag=>intro i;cases i with
   |zero=>rfl
   |succ W=>exact ag W
namespace S
variable{α:Type}
@[simp] def aAX(i:Nat):(S.nil:S α).get i=none:=rfl
@[simp] def aAY(v:Option α)(k r:S α):(S.node v k r).get 0=v:=rfl
def AW(v:Option α)(k r:S α)(W:Nat):(S.node v k r).get (W+1)=if W%2=0 then k.get (W/2)else r.get (W/2):=by
 show bI (Nat.beq (W%2) 0) (k.get (W/2)) (r.get (W/2))=_
 rw[hl]
def ayk(f:Nat)(E:Option α):rB (f+1) S.nil 0 E= .node E .nil .nil:=rfl
def ayj(f W:Nat)(E:Option α):rB (f+1) S.nil (W+1) E=
 if W%2=0 then .node none (rB f .nil (W/2) E) .nil else .node none .nil (rB f .nil (W/2) E):=by
 show bI (Nat.beq (W%2) 0) (jt (rB f .nil (W/2) E) λbQ=>S.node none bQ S.nil) (jt (rB f .nil (W/2) E) λfL=>S.node none S.nil fL)=_
 rw[hl,gS,gS]
def aym(f:Nat)(v:Option α)(k r:S α)(E:Option α):rB (f+1) (.node v k r) 0 E= .node E k r:=rfl
def ayl(f W:Nat)(v:Option α)(k r:S α)(E:Option α):rB (f+1) (.node v k r) (W+1) E=
 if W%2=0 then .node v (rB f k (W/2) E) r else .node v k (rB f r (W/2) E):=by
 show bI (Nat.beq (W%2) 0) (jt (rB f k (W/2) E) λbQ=>S.node v bQ r) (jt (rB f r (W/2) E) λfL=>S.node v k fL)=_
 rw[hl,gS,gS]
def apf:∀(f:Nat) (t:S α) (i W:Nat) (E:Option α),i<f->(rB f t i E).get W=if i=W then E else t.get W:=by
 intro f
 induction f with
 |zero=>intro t i W E a;omega
 |succ f ag=>
  intro t i W E a
  cases i with
  |zero=>
   cases t with
   |nil=>rw[ayk];cases W with
    |zero=>simp
    |succ W=>rw[AW];simp
   |node v k r=>rw[aym];cases W with
    |zero=>simp
    |succ W=>rw[AW,AW];simp
  |succ i=>
   have aA:i/2<f:=Zo
   cases t with
   |nil=>
    rw[ayj]
    cases W with
    |zero=>split<;>simp
    |succ W=>
     by_cases B:i%2=0
     ·rw[Zq B,AW]
      by_cases fy:W%2=0
      ·rw[Zq fy,ag _ _ _ _ aA]
       by_cases al:i/2=W/2
       ·rw[Zq al,Zq Zo]
       ·rw[Zg al,Zg Zo];rfl
      ·rw[Zg fy,Zg Zo];rfl
     ·rw[Zg B,AW]
      by_cases fy:W%2=0
      ·rw[Zq fy,Zg Zo];rfl
      ·rw[Zg fy,ag _ _ _ _ aA]
       by_cases al:i/2=W/2
       ·rw[Zq al,Zq Zo]
       ·rw[Zg al,Zg Zo];rfl
   |node v k r=>
    rw[ayl]
    cases W with
    |zero=>split<;>simp
    |succ W=>
     rw[AW v k r]
     by_cases B:i%2=0
     ·rw[Zq B,AW]
      by_cases fy:W%2=0
      ·rw[Zq fy,Zq fy,ag _ _ _ _ aA]
       by_cases al:i/2=W/2
       ·rw[Zq al,Zq Zo]
       ·rw[Zg al,Zg Zo]
      ·rw[Zg fy,Zg fy,Zg Zo]
     ·rw[Zg B,AW]
      by_cases fy:W%2=0
      ·rw[Zq fy,Zq fy,Zg Zo]
      ·rw[Zg fy,Zg fy,ag _ _ _ _ aA]
       by_cases al:i/2=W/2
       ·rw[Zq al,Zq Zo]
       ·rw[Zg al,Zg Zo]
def kw(t:S α)(i W:Nat)(E:Option α):(t.set i E).get W=if i=W then E else t.get W:=apf _ _ _ _ _ Zo
def MG(k:List α):∀(i:Nat) (t:S α) (W:Nat),(ofList k i t).get W=if i<=W/\W<i+k.length then k[W-i]? else t.get W:=by
 induction k with
 |nil=>intro i t W;simp only[ofList,ZY];rw[Zg Zo]
 |cons E k ag=>
  intro i t W
  simp only[ofList,gS]
  rw[ag,kw]
  by_cases B:i=W
  ·subst B;rw[Zg Zo,Zq rfl,Zq Zs];simp
  ·rw[Zg B]
   by_cases al:i+1<=W/\W<i+1+k.length
   ·rw[Zq al,Zq (by simp;omega)]
    have:W-i=(W-(i+1))+1:=Zo
    rw[this,ZT]
   ·rw[Zg al,Zg (by simp;omega)]
def IL(t:S α):∀(n U:Nat) (k:List α),t.kh U n=some k->k.length=n/\∀i,i<n->t.get (U+i)=k[i]? :=by
 intro n
 induction n with
 |zero=>intro U k a;simp[kh]at a;subst a;simp
 |succ n ag=>
  intro U k a
  simp only[kh]at a
  cases bS:t.get U with
  |none=>simp[bS]at a
  |some E=>
   simp only[bS]at a
   cases V:kh t (U+1) n with
   |none=>simp[V]at a
   |some r=>
    simp only[V,Zf]at a
    subst a
    obtain⟨H,K⟩:=ag _ _ V
    refine⟨by simp[H],λi aA=> ?_⟩
    cases i with
    |zero=>simpa using bS
    |succ i=>rw[show U+(i+1)=U+1+i by omega,K i Zo];simp
end S
def VE(k:List z):∀(c:S z) (U:Nat),dM c U k=S.ofList k U c:=by
 induction k with
 |nil=>intro c U;rfl
 |cons v k ag=>intro c U;simp only[dM,S.ofList,gS];exact ag _ _
structure mq where
 cr:Nat
 dH:Nat
 room:Nat
 deriving Inhabited
abbrev c1:=Nat->mq
def mY(J:c1):Fn->Fn
 | .yield k=> .yield (J k).cr
 |f=>f
def fp(s:List Nat):ByteArray:=⟨(s.map UInt8.ofNat).toArray⟩
mutual
def aF(J:c1):z->Value
 | .bool b=> .bool b
 | .int o n=> .int o n
 | .str s=> .string (fp s)
 | .ptr b U=> .pointer (some ⟨(J b).cr,(J b).dH+U,none⟩)
 | .cW=> .pointer none
 | .slice b U len cap=> .slice (some ⟨(J b).cr,(J b).dH+U,none⟩) len cap
 | .el b U len aR=> .slice (some ⟨(J b).cr,(J b).dH+U,none⟩) len (((J b).room-U)/aR)
 | .a2=> .slice none 0 0
 | .map m=> .map (some (J m).cr)
 | .mf=> .map none
 | .func fn E b=> .func (mY J fn) (bK J E).toArray (bK J b).toArray
 | .nilFunc=> .nilFunc
 | .iface t v=> .iface t (aF J v)
 | .nilIface=> .nilIface
 | .agg cs=> .agg (bK J cs).toArray
 | .tuple aY=> .tuple (bK J aY).toArray
def bK(J:c1):List z->List Value
 |[]=>[]
 |v::k=>aF J v::bK J k
end
def px(J:c1)(k:List z):bK J k=k.map (aF J):=by
 induction k with
 |nil=>rfl
 |cons v k ag=>simp[bK,ag]
def MI(Y:Nat->Prop):Fn->Prop
 | .yield k=>Y k
 | .func _=>True
 |_=>False
mutual
def b7(Y:Nat->Prop):z->Prop
 | .bool _=>True
 | .int _ _=>True
 | .str s=>∀x∈s,x<256
 | .ptr b _=>Y b
 | .cW=>True
 | .slice b _ _ _=>Y b
 | .el b _ _ _=>Y b
 | .a2=>True
 | .map m=>Y m
 | .mf=>True
 | .func fn E b=>MI Y fn/\d0 Y E/\d0 Y b
 | .nilFunc=>True
 | .iface _ v=>b7 Y v
 | .nilIface=>True
 | .agg cs=>d0 Y cs
 | .tuple aY=>d0 Y aY
def d0(Y:Nat->Prop):List z->Prop
 |[]=>True
 |v::k=>b7 Y v/\d0 Y k
end
def tp(Y:Nat->Prop)(k:List z):d0 Y k↔∀v∈k,b7 Y v:=by
 induction k with
 |nil=>simp[d0]
 |cons v k ag=>simp[d0,ag]
mutual
def QJ{J iE:c1}{Y:Nat->Prop}(a:∀b,Y b->J b=iE b):∀v,b7 Y v->aF J v=aF iE v
 | .bool _,_=>rfl
 | .int _ _,_=>rfl
 | .str _,_=>rfl
 | .ptr b U,g=>by simp only[aF,a b g]
 | .cW,_=>rfl
 | .slice b U k c,g=>by simp only[aF,a b g]
 | .el b U k c,g=>by simp only[aF,a b g]
 | .a2,_=>rfl
 | .map m,g=>by simp only[aF,a m g]
 | .mf,_=>rfl
 | .func fn E b,g=>by
   obtain⟨b4,b1,cM⟩:=g
   have B:mY J fn=mY iE fn:=by
    cases fn<;>simp only[mY]
    rw[a _ b4]
   simp only[aF,B,FK a E b1,FK a b cM]
 | .nilFunc,_=>rfl
 | .iface t v,g=>by simp only[aF,QJ a v g]
 | .nilIface,_=>rfl
 | .agg cs,g=>by simp only[aF,FK a cs g]
 | .tuple aY,g=>by simp only[aF,FK a aY g]
def FK{J iE:c1}{Y:Nat->Prop}(a:∀b,Y b->J b=iE b):∀k,d0 Y k->bK J k=bK iE k
 |[],_=>rfl
 |v::k,g=>by simp only[bK,QJ a v g.1,FK a k g.2]
end
mutual
def oZ{Y dh:Nat->Prop}(a:∀b,Y b->dh b):∀v,b7 Y v->b7 dh v
 | .bool _,_=>trivial
 | .int _ _,_=>trivial
 | .str _,g=>g
 | .ptr b _,g=>a b g
 | .cW,_=>trivial
 | .slice b _ _ _,g=>a b g
 | .el b _ _ _,g=>a b g
 | .a2,_=>trivial
 | .map m,g=>a m g
 | .mf,_=>trivial
 | .func fn E b,g=>⟨by cases fn<;>first|exact a _ g.1|exact g.1,qZ a E g.2.1,qZ a b g.2.2⟩
 | .nilFunc,_=>trivial
 | .iface _ v,g=>oZ a v g
 | .nilIface,_=>trivial
 | .agg cs,g=>qZ a cs g
 | .tuple aY,g=>qZ a aY g
def qZ{Y dh:Nat->Prop}(a:∀b,Y b->dh b):∀k,d0 Y k->d0 dh k
 |[],_=>trivial
 |v::k,g=>⟨oZ a v g.1,qZ a k g.2⟩
end
end Go.bn

