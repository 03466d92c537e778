/- A part of the last text's proof; no condition of its own -/
import GoSem.Step
import Derived.Below
import Derived.ChangeKeysEq
import Derived.Laws.IdiomCopy
import Derived.Laws.Unary
import Derived.Laws.Wrap64
import Derived.Laws.StructEq
set_option maxHeartbeats 8000000
set_option linter.all false
namespace Go
def Zo{p:Prop}(h:p:=by omega):p:=h
def Za{p q:Prop}(a:p)(b:q):p/\q:=⟨a,b⟩
def Zd{p:Prop}(h:p:=by decide):p:=h
def Zs{p:Prop}(h:p:=by simp):p:=h
def Zk{p:Prop}(h:p:=by kernel_rfl):p:=h
def Zb:type_of%@decide_eq_false_iff_not:=@decide_eq_false_iff_not
def Zc:type_of%@List.getElem?_eq_some_iff:=@List.getElem?_eq_some_iff
def Ze:type_of%@List.getElem?_eq_getElem:=@List.getElem?_eq_getElem
def Zf:type_of%@Option.some.injEq:=@Option.some.injEq
def Zg:type_of%@if_neg:=@if_neg
def Zh:type_of%@decide_eq_true_eq:=@decide_eq_true_eq
def Zi:type_of%@Nat.le_refl:=@Nat.le_refl
def Zj:type_of%@List.mem_of_getElem?:=@List.mem_of_getElem?
def Zl:type_of%@Nat.eq_of_beq_eq_true:=@Nat.eq_of_beq_eq_true
def Zn:type_of%@List.length_map:=@List.length_map
def Zp:type_of%@Bool.and_eq_true:=@Bool.and_eq_true
def Zq:type_of%@List.mem_cons_self:=@List.mem_cons_self
def Zr:type_of%@List.mem_cons:=@List.mem_cons
def Zt:type_of%@List.mem_cons_of_mem:=@List.mem_cons_of_mem
def Zu:type_of%@if_pos:=@if_pos
def Zv:type_of%@List.drop_eq_getElem_cons:=@List.drop_eq_getElem_cons
def Zw:type_of%@Bool.false_eq_true:=@Bool.false_eq_true
def Zx:type_of%@List.take_of_length_le:=@List.take_of_length_le
def Zy:type_of%@List.getElem?_map:=@List.getElem?_map
def Zz:type_of%@List.mem_append:=@List.mem_append
def ZA:type_of%@if_false:=@if_false
def ZB:type_of%@Nat.le_trans:=@Nat.le_trans
def ZC:type_of%@if_true:=@if_true
def ZD:type_of%@List.length_cons:=@List.length_cons
def ZE:type_of%@List.mem_map:=@List.mem_map
def ZF:type_of%@Option.bind_some:=@Option.bind_some
def ZG:type_of%@not_false_eq_true:=@not_false_eq_true
def ZH:type_of%@List.drop_eq_nil_of_le:=@List.drop_eq_nil_of_le
def ZI:type_of%@List.take_zero:=@List.take_zero
def ZJ:type_of%@Nat.add_assoc:=@Nat.add_assoc
def ZK:type_of%@List.not_mem_nil:=@List.not_mem_nil
def ZL:type_of%@List.map_cons:=@List.map_cons
def ZM:type_of%@List.getElem?_cons_succ:=@List.getElem?_cons_succ
def ZN:type_of%@Array.getElem?_eq_some_iff:=@Array.getElem?_eq_some_iff
def ZO:type_of%@List.length_append:=@List.length_append
def ZP:type_of%@Nat.lt_of_lt_of_le:=@Nat.lt_of_lt_of_le
def ZQ:type_of%@List.getElem?_eq_none:=@List.getElem?_eq_none
def ZR:type_of%@Array.getElem?_toList:=@Array.getElem?_toList
def ZS:type_of%@Nat.zero_add:=@Nat.zero_add
def ZT:type_of%@List.length_nil:=@List.length_nil
def ZU:type_of%@Option.map_some:=@Option.map_some
def ZV:type_of%@List.getElem?_cons_zero:=@List.getElem?_cons_zero
def ZW:type_of%@Nat.add_zero:=@Nat.add_zero
def ZX:type_of%@List.getElem?_append_right:=@List.getElem?_append_right
def ZY:type_of%@List.take_add_one:=@List.take_add_one
def ZZ:type_of%@List.drop_zero:=@List.drop_zero
def Z0:type_of%@Option.bind_eq_some_iff:=@Option.bind_eq_some_iff
def Z1:type_of%@List.mem_iff_getElem?:=@List.mem_iff_getElem?
def Z2:type_of%@Option.isSome_none:=@Option.isSome_none
def Z3:type_of%@List.take_succ_cons:=@List.take_succ_cons
def Z4:type_of%@List.eq_nil_of_length_eq_zero:=@List.eq_nil_of_length_eq_zero
def Z5:type_of%@List.getElem?_append_left:=@List.getElem?_append_left
def Z6:type_of%@List.drop_succ_cons:=@List.drop_succ_cons
def Z7:type_of%@List.foldl_cons:=@List.foldl_cons
def Z8:type_of%@List.nil_append:=@List.nil_append
def Z9:type_of%@Option.isSome_some:=@Option.isSome_some
def Ya:type_of%@and_true:=@and_true
def Yb:type_of%@List.set_cons_zero:=@List.set_cons_zero
def Yc:type_of%@List.set_cons_succ:=@List.set_cons_succ
def Yd:type_of%@decide_false:=@decide_false
def Ye:type_of%@Nat.add_mul:=@Nat.add_mul
def Yf:type_of%@Nat.le_succ:=@Nat.le_succ
def Yg:type_of%@Bool.and_self:=@Bool.and_self
def Yh:type_of%@Bool.eq_iff_iff:=@Bool.eq_iff_iff
def Yi:type_of%@List.map_append:=@List.map_append
def Yj:type_of%@Bool.not_false:=@Bool.not_false
def Yk:type_of%@Bool.not_true:=@Bool.not_true
def Yl:type_of%@Nat.mul_one:=@Nat.mul_one
def Ym:type_of%@beq_self_eq_true:=@beq_self_eq_true
def Yn:type_of%@Int.eq_ofNat_of_zero_le:=@Int.eq_ofNat_of_zero_le
def Yo:type_of%@Option.bind_assoc:=@Option.bind_assoc
def Yp:type_of%@Option.map_eq_some_iff:=@Option.map_eq_some_iff
def Yq:type_of%@Nat.lt_succ_self:=@Nat.lt_succ_self
def Yr:type_of%@Bool.and_true:=@Bool.and_true
def Ys:type_of%@decide_true:=@decide_true
def Yt:type_of%@List.flatten_cons:=@List.flatten_cons
def Yu:type_of%@List.mem_singleton:=@List.mem_singleton
def Yv:type_of%@List.findSome?_eq_none_iff:=@List.findSome?_eq_none_iff
def Yw:type_of%@List.cons.injEq:=@List.cons.injEq
def Yx:type_of%@List.append_nil:=@List.append_nil
def Yy:type_of%@List.map_map:=@List.map_map
def Yz:type_of%@or_false:=@or_false
def YA:type_of%@List.size_toArray:=@List.size_toArray
def YB:type_of%@Option.some.inj:=@Option.some.inj
def YC:type_of%@List.cons_append:=@List.cons_append
def YD:type_of%@List.length_drop:=@List.length_drop
def YE:type_of%@Array.getElem?_append_left:=@Array.getElem?_append_left
def YF:type_of%@List.map_congr_left:=@List.map_congr_left
def YG:type_of%@List.takeWhile_cons:=@List.takeWhile_cons
def YH:type_of%@Nat.mod_eq_of_lt:=@Nat.mod_eq_of_lt
def YI:type_of%@List.all_eq_true:=@List.all_eq_true
def YJ:type_of%@List.getElem?_drop:=@List.getElem?_drop
def YK:type_of%@List.set_nil:=@List.set_nil
def YL:type_of%@List.ext_getElem?:=@List.ext_getElem?
def YM:type_of%@List.flatMap_cons:=@List.flatMap_cons
def YN:type_of%@List.mem_filter:=@List.mem_filter
def YO:type_of%@List.length_pos_iff:=@List.length_pos_iff
def YP:type_of%@Prod.mk.injEq:=@Prod.mk.injEq
def YQ:type_of%@Option.getD_some:=@Option.getD_some
def YR:type_of%@List.pairwise_iff_getElem:=@List.pairwise_iff_getElem
def YS:type_of%@not_or:=@not_or
def YT:type_of%@Int.emod_eq_of_lt:=@Int.emod_eq_of_lt
def YU:type_of%@Array.size_append:=@Array.size_append
def YV:type_of%@Nat.lt_trichotomy:=@Nat.lt_trichotomy
def YW:type_of%@List.getElem?_take_of_lt:=@List.getElem?_take_of_lt
def YX:type_of%@Nat.le_mul_of_pos_right:=@Nat.le_mul_of_pos_right
def YY:type_of%@List.take_length:=@List.take_length
def YZ:type_of%@Array.ext':=@Array.ext'
def Y0:type_of%@beq_iff_eq:=@beq_iff_eq
def Y1:type_of%@Option.map_none:=@Option.map_none
def Y2:type_of%@Array.getElem?_modify:=@Array.getElem?_modify
def Y3:type_of%@Nat.le_div_iff_mul_le:=@Nat.le_div_iff_mul_le
def Y4:type_of%@Array.mem_of_getElem?:=@Array.mem_of_getElem?
def Y5:type_of%@List.mapM_cons:=@List.mapM_cons
def Y6:type_of%@List.mem_of_mem_drop:=@List.mem_of_mem_drop
def Y7:type_of%@List.mem_of_mem_take:=@List.mem_of_mem_take
def Y8:type_of%@true_and:=@true_and
def Y9:type_of%@Nat.le_of_eq:=@Nat.le_of_eq
def za:type_of%@Nat.beq_refl:=@Nat.beq_refl
def zb:type_of%@Nat.lt_or_ge:=@Nat.lt_or_ge
def zc:type_of%@Nat.sub_zero:=@Nat.sub_zero
def zd:type_of%@Nat.le_add_right:=@Nat.le_add_right
def ze:type_of%@Nat.zero_mul:=@Nat.zero_mul
def zf:type_of%@List.length_take:=@List.length_take
def zg:type_of%@List.flatten_append:=@List.flatten_append
def zh:type_of%@and_self:=@and_self
def zi:type_of%@Bool.or_eq_true:=@Bool.or_eq_true
def zj:type_of%@List.find?_cons:=@List.find?_cons
def zk:type_of%@List.find?_eq_none:=@List.find?_eq_none
def zl:type_of%@List.drop_drop:=@List.drop_drop
def zm:type_of%@Nat.le_of_lt:=@Nat.le_of_lt
def zn:type_of%@Nat.not_lt:=@Nat.not_lt
def zo:type_of%@Nat.zero_le:=@Nat.zero_le
def zp:type_of%@Nat.mul_comm:=@Nat.mul_comm
def zq{p q:Prop}(a:q)(h:q->p:=by intro h;omega):p:=h a
def zr(a b:Nat)(h:b<=a:=by omega):decide ((a:Int)<(b:Int))=false:=decide_eq_false (by omega)
def zs(a b:Nat)(h:a<b:=by omega):decide ((a:Int)<(b:Int))=true:=decide_eq_true (by omega)
def zt{α:Type}(l:List α)(i:Nat)(h:i<l.length:=by omega):∃x,l[i]? =some x:=⟨_,List.getElem?_eq_getElem h⟩
end Go
namespace Go.bd
noncomputable section
inductive K(α:Type) where
 |nil
 |node (v:Option α) (k r:K α)
 deriving Inhabited
universe ac
def bY{α:Type ac}(c:Bool)(t E:α):α:=Bool.rec (motive:=λ_=>α) E t c
def K.get{α:Type}(t:K α):Nat->Option α:=
 K.rec (motive:=λ_=>Nat->Option α) (λ_=>none)
  (λv _ _ iO q9 i=>Nat.rec (motive:=λ_=>Option α) v (λW _=>bY (Nat.beq (Nat.mod W 2) 0) (iO (Nat.div W 2)) (q9 (Nat.div W 2))) i) t
def jz{α eD:Type}(t:K α)(q:K α->eD):eD:=
 K.rec (motive:=λ_=>eD) (q .nil) (λv k r _ _=>q (.node v k r)) t
def K.sB{α:Type}(f:Nat):K α->Nat->Option α->K α:=
 Nat.rec (motive:=λ_=>K α->Nat->Option α->K α) (λt _ _=>t)
  (λ_ al t i F=>K.rec (motive:=λ_=>K α)
   (Nat.rec (motive:=λ_=>K α) (.node F .nil .nil) (λW _=>bY (Nat.beq (Nat.mod W 2) 0)
    (jz (al .nil (Nat.div W 2) F) λbV=> .node none bV .nil) (jz (al .nil (Nat.div W 2) F) λgb=> .node none .nil gb)) i)
   (λv k r _ _=>Nat.rec (motive:=λ_=>K α) (.node F k r) (λW _=>bY (Nat.beq (Nat.mod W 2) 0)
    (jz (al k (Nat.div W 2) F) λbV=> .node v bV r) (jz (al r (Nat.div W 2) F) λgb=> .node v k gb)) i) t) f
def q6{eD:Type}(n:Nat)(q:Nat->eD):eD:=Nat.rec (motive:=λ_=>eD) (q 0) (λm _=>q (Nat.succ m)) n
def SE{eD:Type}(n:Int)(q:Int->eD):eD:=
 Int.rec (motive:=λ_=>eD) (λm=>q6 m λm=>q (.ofNat m)) (λm=>q6 m λm=>q (.negSucc m)) n
def eo{α:Type}(k:List (Nat×α)):Nat->Option α:=
 List.rec (motive:=λ_=>Nat->Option α) (λ_=>none) (λp _ al W=>Prod.rec (motive:=λ_=>Option α) (λF b=>bY (Nat.beq F W) (some b) (al W)) p) k
def K.set{α:Type}(t:K α)(i:Nat)(F:Option α):K α:=K.sB (i+1) t i F
def K.ofList{α:Type}:List α->Nat->K α->K α
 |[],_,t=>t
 |F::k,i,t=>jz (t.set i (some F)) λha=>ofList k (i+1) ha
def K.kU{α:Type}(t:K α):Nat->Nat->Option (List α)
 |_,0=>some []
 |U,n+1=>match t.get U with
  |none=>none
  |some F=>match kU t (U+1) n with
   |none=>none
   |some k=>some (F::k)
def o6{α:Type}(k:List α):Nat->Option α:=
 List.rec (motive:=λ_=>Nat->Option α) (λ_=>none) (λF _ al i=>Nat.rec (motive:=λ_=>Option α) (some F) (λW _=>al W) i) k
inductive D where
 |bool (b:Bool)
 |int (q:IntKind) (n:Int)
 |str (s:List Nat)
 |ptr (b U:Nat)
 |cx
 |slice (b U len cap:Nat)
 |fl (b U len bl:Nat)
 |aV
 |map (m:Nat)
 |mi
 |func (fn:Fn) (first fM:List D)
 |nilFunc
 |iface (t:Nat) (v:D)
 |nilIface
 |agg (cs:List D)
 |tuple (a8:List D)
 deriving Inhabited
def D.cells:D->List D
 | .agg cs=>cs
 |v=>[v]
def undef:D:= .tuple []
def C7{α eD:Type}(f:α->Option eD):List α->Option (List eD)
 |[]=>some []
 |F::k=>match f F with
  |none=>none
  |some b=>match C7 f k with
   |none=>none
   |some r=>some (b::r)
def De:Nat->Value->Option D
 |0,_=>none
 |n+1,v=>match v with
  | .bool b=>some (.bool b)
  | .int q n=>some (.int q n)
  | .string s=>some (.str (s.data.toList.map (·.toNat)))
  | .pointer none=>some .cx
  | .slice none 0 0=>some .aV
  | .map none=>some .mi
  | .func (.func f) ⟨[]⟩ ⟨[]⟩=>some (.func (.func f) [] [])
  | .nilFunc=>some .nilFunc
  | .iface t v=>match De n v with|some F=>some (.iface t F)|none=>none
  | .nilIface=>some .nilIface
  | .agg cs=>match C7 (De n) cs.toList with|some k=>some (.agg k)|none=>none
  | .tuple cs=>match C7 (De n) cs.toList with|some k=>some (.tuple k)|none=>none
  |_=>none
def Fw(v:Value):Option D:=De 20 v
inductive QR where
 |fn (fn:Fn) (fM:List D)
 |collected (r:Nat)
structure hI where
 target:QR
 args:List D
inductive ox where
 |own|marked|grow (fv:List Nat)|ki
 deriving Inhabited
inductive ag where
 |cells (c:K D) (size:Nat) (st:ox)
 |map (bH:List (D×D×Nat)) (eR:Nat)
 |look (bH:List (D×D))
 |pb (s:List Nat) (pos:Nat)
 |Bk (m:Option Nat) (wY:Nat) (seen:List Nat) (ahM:Nat)
 |Im (m wY n:Nat) (cp:List Nat) (st:Nat) (nV:Option Nat)
 |loop (state:LoopState) (pending:Option Code) (fn:Nat) (n ao:Nat) (H:K D) (params:List Nat) (assign body:Code) (defers:Nat)
 |deferred (qk:Option (List hI))
structure aL where
 P:Program
 G:K ag
 a2:Nat
 hh:Nat->List D->Option D
 p0:Nat
def Y(C:aL)(h:K ag)(b:Nat):Option ag:=
 bY (Nat.blt b C.a2) (C.G.get b) (h.get (Nat.sub b C.a2))
def bn(C:aL)(h:K ag)(b:Nat)(U:Option ag):K ag:=h.set (Nat.sub b C.a2) U
def kH(C:aL)(b:Nat):Bool:=Nat.ble C.a2 b
structure sK where
 v:D
 recovered:Bool
inductive lg where
 |run|returning|panicking (chain:List sK)
inductive kC where
 |v (W:Nat)
 |t (n:Nat)
 |c (F:D)
inductive jZ where
 |Fl (x:kC)
 |pick (c F b:kC)
 |fZ (F:kC)
 |C2 (n:Nat) (F:kC)
 |off (d:Nat) (x:kC)
 |CV (n bl:Nat) (x i:kC)
 |CW (bl:Nat) (x i:kC)
 |Fs (x:kC)
 |Ls (op:BinOp) (x e:kC)
 |ext (i:Nat) (x:kC)
 |st (n:Nat) (F v:kC)
 |call (f:Nat) (args:List kC)
 |ig (b8:List (Nat×Nat)) (U:Op)
 |make (b8:List (Nat×Nat)) (U:Op)
 |fp (b8:List (Nat×Nat)) (U:Op)
structure ft where
 i:Nat
 g:Option (Nat×Bool)
 op:jZ
structure xJ where
 u2:List ft
 VW:List ft
 fp:Option ft
inductive dR where
 |code (c:Code)
 |inBlock (id:Nat)
 |inLoop (body:Code)
 |inScope (body:Code)
 |IU (ar:Array Oper) (aq:List (Nat×D)) (rest:List ft) (fin:List (Nat×Nat))
 |drawn (ar:Array Oper) (base:Nat) (aq:List (Nat×D)) (lB:List xJ) (fin:List (Nat×Nat))
 |t8 (ar:Array Oper) (aq:List (Nat×D)) (a:Nat) (rest:List ft) (fin:List (Nat×Nat))
 |BG (ar:Array Oper) (base:Nat) (aq:List (Nat×D)) (a:Nat) (lB:List xJ) (fin:List (Nat×Nat))
 |inRangeFunc (k:Nat)
 |endRangeFunc (k:Nat)
 |beginRound
structure gL where
 fn:Nat
 n:Nat
 ao:Nat
 H:K D
 todo:List dR
 defers:List hI
 mode:lg
 deferred:Bool
 roundOf:Option Nat
section ar
variable(C:aL)
def js(t:Nat):Option Nat:=match C.P.info? t with|some i=>some i.size|none=>none
def ub(t:Nat):Option D:=match C.P.info? t with|some i=>(match i.zero with|some v=>Fw v|none=>none)|none=>none
def E8(t:Nat):Option Bool:=match C.P.underlying t with
 |some (.struct _)=>some true|some (.array _ _)=>some true|some _=>some false|none=>none
def lS:List D->Nat->List D->List D
 |cs,_,[]=>cs
 |cs,U,v::k=>lS (cs.set U v) (U+1) k
def Ck(IH:Nat->Option (Nat×Nat)):List D->List (Nat×D)->Option (List D)
 |cells,[]=>some cells
 |cells,(i,v)::rest=>match IH i with
  |none=>none
  |some (off,size)=>
   bY (Nat.beq v.cells.length size&&Nat.ble (off+size) cells.length) (Ck IH (lS cells off v.cells) rest)<|none
def k7:Nat->List D->List D
 |0,_=>[]
 |n+1,bz=>bz++k7 n bz
def Au(av:Operand->Option D):List (Nat×Operand)->Option (List (Nat×D))
 |[]=>some []
 |(i,x)::k=>match av x,Au av k with|some v,some r=>some ((i,v)::r)|_,_=>none
def qo(av:Operand->Option D):List Operand->Option (List D)
 |[]=>some []
 |x::k=>match av x,qo av k with|some v,some r=>some (v::r)|_,_=>none
def Wp(j6:List Field)(i:Nat):Option (Nat×Nat):=
 match o6 j6 i with
 |some f=>(match js C f.type with|some s=>some (f.offset,s)|none=>none)
 |none=>none
def PY:List Field->Bool
 |[]=>true
 |f::k=>(match js C f.type with|some _=>true|none=>false)&&PY k
def M5(t:Nat)(kh:List (Nat×D)):Option D:=
 match ub C t with
 |none=>none
 |some bz=>match C.P.underlying t with
  |some (.struct j6)=>bY (PY C j6.toList) (match Ck (Wp C j6.toList) bz.cells kh with|some cs=>some (.agg cs)|none=>none) none
  |some (.array _ eg)=>(match js C eg with
   |some s=>(match Ck (λi=>some (i*s,s)) bz.cells kh with|some cs=>some (.agg cs)|none=>none)
   |none=>none)
  |_=>none
def DX(t:Nat)(cs:List D)(off:Nat):Option D:=
 match E8 C t,js C t with
 |some true,some s=>some (.agg ((cs.drop off).take s))
 |some false,_=>o6 cs off
 |_,_=>none
def na:List Nat->List Nat->Bool
 |[],[]=>true
 |F::x,b::e=>Nat.beq F b&&na x e
 |_,_=>false
def Da:List Nat->List Nat->Bool
 |_,[]=>false
 |[],_::_=>true
 |F::x,b::e=>Nat.blt F b||(Nat.beq F b&&Da x e)
def IE(h:K ag)(b U:Nat):Bool:=match Y C h b with
 |some (.cells _ n .own)=>kH C b&&Nat.blt U n
 |_=>false
def C4(h:K ag)(b U:Nat):Bool:=match Y C h b with
 |some (.cells _ _ .ki)=>false
 |some (.cells _ n _)=>Nat.blt U n
 |_=>false
def ptrEq(h:K ag)(b U dO o':Nat):Option Bool:=
 bY (Nat.beq b dO) (some (Nat.beq U o')) (bY (IE C h b U&&C4 C h dO o'||IE C h dO o'&&C4 C h b U) (some false) none)
def DW(eq:Nat->D->D->Option Bool):List Field->List D->List D->Option Bool
 |[],_,_=>some true
 |f::jR,cl,oo=>
  bY (f.name== "_") none<|
  match DX C f.type cl f.offset,DX C f.type oo f.offset with
  |some F,some b=>(match eq f.type F b with
   |some true=>DW eq jR cl oo
   |some false=>some false
   |none=>none)
  |_,_=>none
def mD(q e5:IntKind):Bool:=match q,e5 with
 | .i8, .i8=>true| .i16, .i16=>true| .i32, .i32=>true| .i64, .i64=>true
 | .u8, .u8=>true| .u16, .u16=>true| .u32, .u32=>true| .u64, .u64=>true
 |_,_=>false
def GF(F b:Bool):Bool:=match F,b with|true,true=>true|false,false=>true|_,_=>false
def uY(x e:Int):Bool:=match x,e with
 | .ofNat F, .ofNat b=>Nat.beq F b
 | .negSucc F, .negSucc b=>Nat.beq F b
 |_,_=>false
def Bb(x e:Int):Bool:=match x,e with
 | .ofNat F, .ofNat b=>Nat.blt F b
 | .negSucc F, .negSucc b=>Nat.blt b F
 | .negSucc _, .ofNat _=>true
 | .ofNat _, .negSucc _=>false
def kl(h:K ag):Nat->Nat->D->D->Option Bool
 |0,_,_,_=>none
 |d+1,t,x,e=>
  match C.P.underlying t,x,e with
  |some .bool, .bool F, .bool b=>some (GF F b)
  |some (.int _), .int q F, .int e5 b=>bY (mD q e5) (some (uY F b)) none
  |some .string, .str F, .str b=>some (na F b)
  |some (.pointer _), .cx, .cx=>some true
  |some (.pointer _), .cx, .ptr _ _=>some false
  |some (.pointer _), .ptr _ _, .cx=>some false
  |some (.pointer E), .ptr b U, .ptr dO o'=>
   (
    match js C E with
    |some s=>bY (Nat.beq s 0) none (ptrEq C h b U dO o')
    |none=>none)
  |some (.interface _), .nilIface, .nilIface=>some true
  |some (.interface _), .nilIface, .iface _ _=>some false
  |some (.interface _), .iface _ _, .nilIface=>some false
  |some (.interface _), .iface Ms QD, .iface ty QE=>bY (Nat.beq Ms ty) (match C.P.info? Ms with
   |some i=>bY i.comparable (kl h d Ms QD QE) none
   |none=>none) (some false)
  |some (.slice _), .aV, .aV=>some true
  |some (.slice _), .aV, .slice .. =>some false
  |some (.slice _), .aV, .fl .. =>some false
  |some (.slice _), .slice .., .aV=>some false
  |some (.slice _), .fl .., .aV=>some false
  |some (.map _ _), .mi, .mi=>some true
  |some (.map _ _), .mi, .map _=>some false
  |some (.map _ _), .map _, .mi=>some false
  |some (.func _ _ _), .nilFunc, .nilFunc=>some true
  |some (.func _ _ _), .nilFunc, .func .. =>some false
  |some (.func _ _ _), .func .., .nilFunc=>some false
  |some (.struct j6), .agg cl, .agg oo=>bY (C.P.stoodInHeld t) none (DW C (kl h d) j6.toList cl oo)
  |_,_,_=>none
def p9(q:IntKind)(n:Int):Int:=
 match q with
 | .i64=>(λm:Int=>bY (decide (m<9223372036854775808)) m (m-18446744073709551616)) (n%18446744073709551616)
 | .u64=>n%18446744073709551616
 | .u8=>n%256
 |q=>q.wrap n
def qD(q:IntKind)(n:Int):Option D:=SE n λn=>some (.int q n)
def lw(q:IntKind)(n:Int):Option D:=SE (p9 q n) λn=>some (.int q n)
def oE(b:Bool):Option D:=bY b (some (.bool true)) (some (.bool false))
def lZ(op:BinOp):IntKind->Int->Int->Option D:=
 match op with
 | .add=>λq x e=>lw q (x+e)
 | .sub=>λq x e=>lw q (x-e)
 | .mul=>λq x e=>lw q (x*e)
 | .quo=>λq x e=>bY (uY e 0) none (lw q (x.tdiv e))
 | .rem=>λq x e=>bY (uY e 0) none (qD q (x.tmod e))
 | .and=>λq x e=>lw q ((BitVec.ofInt q.bits x&&& BitVec.ofInt q.bits e).toNat)
 | .or=>λq x e=>lw q ((BitVec.ofInt q.bits x|||BitVec.ofInt q.bits e).toNat)
 | .xor=>λq x e=>lw q ((BitVec.ofInt q.bits x^^^BitVec.ofInt q.bits e).toNat)
 | .andNot=>λq x e=>lw q ((BitVec.ofInt q.bits x&&& ~~~ BitVec.ofInt q.bits e).toNat)
 | .eql=>λ_ x e=>oE (uY x e)
 | .neq=>λ_ x e=>oE (!uY x e)
 | .lss=>λ_ x e=>oE (Bb x e)
 | .leq=>λ_ x e=>oE (!Bb e x)
 | .gtr=>λ_ x e=>oE (Bb e x)
 | .geq=>λ_ x e=>oE (!Bb x e)
 |_=>λ_ _ _=>none
def JE(op:BinOp)(q:IntKind)(x e:Int):Option D:=
 bY (Bb e 0) none
 (match op with
 | .shl=>lw q (x*2^(min e.toNat q.bits))
 | .shr=>qD q (x.fdiv (2^(min e.toNat q.bits)))
 |_=>none)
def mg(op:BinOp):Bool:=match op with| .shl| .shr=>true|_=>false
def B4(op:BinOp)(x e:List Nat):Option D:=
 match op with
 | .add=>bY (Nat.ble (x.length+e.length) 1000000000) (some (.str (x++e)))<|none
 | .eql=>oE (na x e)
 | .neq=>oE (!na x e)
 | .lss=>oE (Da x e)
 | .leq=>oE (Da x e||na x e)
 | .gtr=>oE (!(Da x e||na x e))
 | .geq=>oE (!Da x e)
 |_=>none
def bq(op:BinOp)(x e:D):Option D:=
 match x,e with
 | .int q F, .int e5 b=>bY (mg op) (JE op q F b) (bY (mD q e5) (lZ op q F b) none)
 |_,_=>none
def GU(t:Nat)(ur:Bool)(x e:D):Bool:=match x,e with
 | .nilIface, .nilIface=>ur||(match C.P.underlying t with|some (.interface iC)=>iC.isEmpty|_=>false)
 | .agg _, .agg _=> !C.P.eqGuardType C.P.depth t
 |_,_=>true
def dw(h:K ag)(op:BinOp)(t:Nat)(ur:Bool)(x e:D):Option D:=
 match x,e with
 | .int q F, .int e5 b=>bq op (.int q F) (.int e5 b)
 | .str F, .str b=>B4 op F b
 |x,e=>bY (GU C t ur x e) (match op with
  | .eql=>(match kl C h 50 t x e with|some b=>oE b|none=>none)
  | .neq=>(match kl C h 50 t x e with|some b=>oE (!b)|none=>none)
  |_=>none) none
def hp(op:UnOp)(x:D):Option D:=
 match op,x with
 | .neg, .int q n=>lZ .sub q 0 n
 | .xor, .int q n=>lZ .xor q (if q.signed then -1 else q.max) n
 | .not, .bool b=>oE (!b)
 |_,_=>none
def RA(aAv dst:Nat)(x:D):Option D:=
 match C.P.underlying aAv,C.P.underlying dst,x with
 |some _,some (.int q), .int _ n=>lw q n
 |some _,some .string, .str s=>some (.str s)
 |_,_,_=>none
def nD(v:D):Option Nat:=match v with| .int _ n=>(match n with| .ofNat n=>some n|_=>none)|_=>none
def pS(U:Option D)(m d:Nat):Option Nat:=match U with
 |some v=>(match nD v with|some n=>bY (Nat.ble n m) (some n)<|none|none=>none)
 |none=>some d
def mr(len cap:Nat)(b0 aN g0:Option D):Option (Nat×Nat×Nat):=
 match pS g0 cap cap with
 |none=>none
 |some m=>match (match aN,g0 with
   |none,some _=>none
   |aN,_=>pS aN m len)with
  |none=>none
  |some a=>match pS b0 a 0 with
   |none=>none
   |some k=>some (k,a,m)
def Dj(av:Operand->Option D):Option Operand->Option (Option D)
 |none=>some none
 |some x=>match av x with|some v=>some (some v)|none=>none
def yR(h:K ag)(b:Nat):Option Nat:=match Y C h b with|some (.cells _ n (.grow _))=>some n|some (.cells _ n .ki)=>some n|_=>none
def Nb(h:K ag)(t:Nat)(x:D)(b0 aN g0:Option D):Option D:=
 match C.P.underlying t,x with
 |some .string, .str s=>(match g0 with
  |some _=>none
  |none=>(match mr s.length s.length b0 aN none with
   |some (k,a,_)=>some (.str ((s.drop k).take (a-k)))
   |none=>none))
 |some (.slice eg), .slice b U len cap=>(match mr len cap b0 aN g0,js C eg with
  |some (k,a,m),some bl=>some (.slice b (bY (Nat.beq m k) (U)<|U+k*bl) (a-k) (m-k))
  |_,_=>none)
 |some (.slice eg), .aV=>(match mr 0 0 b0 aN g0,js C eg with
  |some _,some _=>some .aV
  |_,_=>none)
 |some (.slice eg), .fl b U len bl=>(match js C eg,yR C h b with
  |some yT,some n=>bY (Nat.beq bl yT&&Nat.blt 0 bl) ((match mr len ((n-U)/bl) b0 aN g0 with
    |some (k,a,m)=>(match g0 with
     |some _=>some (.slice b (bY (Nat.beq m k) (U)<|U+k*bl) (a-k) (m-k))
     |none=>bY (Nat.blt k ((n-U)/bl)||Nat.beq k 0) (some (.fl b (U+k*bl) (a-k) bl))<|none)
    |none=>none))<|none
  |_,_=>none)
 |some (.array n eg), .ptr b U=>(match mr n n b0 aN g0,js C eg with
  |some (k,a,m),some bl=>some (.slice b (bY (Nat.beq m k) (U)<|U+k*bl) (a-k) (m-k))
  |_,_=>none)
 |_,_=>none
def M8(t:Nat)(x i:D):Option D:=
 match nD i with
 |none=>none
 |some i=>match C.P.underlying t,x with
  |some (.array n eg), .agg cs=>(match js C eg with|some bl=>bY (Nat.blt i n) (DX C eg cs (i*bl))<|none|none=>none)
  |some .string, .str s=>(match o6 s i with|some c=>some (.int .u8 (Int.ofNat c))|none=>none)
  |_,_=>none
def cellsOf(h:K ag)(b:Nat):Option (K D):=match Y C h b with
 |some (.cells c _ _)=>some c
 |_=>none
def aO(h:K ag)(F:D):Option D:=
 match F with
 | .ptr b U=>(match cellsOf C h b with
   |some c=>c.get U
   |none=>none)
 |_=>none
def d8(h:K ag)(n:Nat)(F:D):Option D:=
 match F with
 | .ptr b U=>(match cellsOf C h b with
   |some c=>(match c.kU U n with|some k=>some (.agg k)|none=>none)
   |none=>none)
 |_=>none
def l0(h:K ag)(t:Nat)(F:D):Option D:=
 match E8 C t,js C t with
 |some true,some s=>d8 C h s F
 |some false,_=>aO C h F
 |_,_=>none
def np:Nat->Nat->D->Bool
 |0,_,_=>false
 |n+1,t,v=>match C.P.underlying t,v with
  |some (.interface _), .iface d x=>(match C.P.info? d with|some i=>i.comparable&&np n d x|none=>false)
  |some (.interface _), .nilIface=>true
  |some (.interface _),_=>false
  |some (.struct j6), .agg cs=>j6.toList.all λf=>f.name== "_"||(match DX C f.type cs f.offset with|some p=>np n f.type p|none=>false)
  |some (.struct _),_=>false
  |some (.array _ _),_=>false
  |some _,_=>true
  |none,_=>false
def ob:Nat->D->D->Bool
 |0,_,_=>false
 |n+1,x,e=>match x,e with
  | .bool F, .bool b=>GF F b
  | .int q F, .int e5 b=>mD q e5&&uY F b
  | .str F, .str b=>na F b
  | .ptr b U, .ptr dO o'=>Nat.beq b dO&&Nat.beq U o'
  | .cx, .cx=>true
  | .nilIface, .nilIface=>true
  | .iface t v, .iface ha gK=>Nat.beq t ha&&ob n v gK
  | .agg F, .agg b=>C1 n F b
  |_,_=>false
 where
 C1 (n:Nat):List D->List D->Bool
 |[],[]=>true
 |x::F,e::b=>ob n x e&&C1 n F b
 |_,_=>false
def findKey(h:K ag)(t:Nat)(q:D):List (D×D×Nat)->Nat->Option (Option (Nat×D))
 |[],_=>some none
 |(e5,v,_)::bH,i=>match kl C h 20 t q e5 with
  |some true=>some (some (i,v))
  |some false=>findKey h t q bH (i+1)
  |none=>none
def pX(h:K ag)(t:Nat)(q:D):List (D×D)->Option (Option D)
 |[]=>some none
 |(e5,v)::bH=>match pX h t q bH,kl C h 20 t q e5 with
  |some r,some false=>some r
  |some none,some true=>some (some v)
  |_,_=>none
def Ii(r:Option (Option D)):Option (Option (Nat×D)):=match r with
 |some (some v)=>some (some (0,v))
 |some none=>some none
 |none=>none
def Na(h:K ag)(t:Nat)(m q:D)(ok:Bool):Option D:=
 match C.P.underlying t with
 |some (.map jV Cg)=>
  (match (match m with
   | .mi=>bY (np C 20 jV q) (some none) none
   | .map r=>(match Y C h r with|some (.map bH _)=>bY (np C 20 jV q) (findKey C h jV q bH 0) none|some (.look bH)=>bY (np C 20 jV q) (Ii (pX C h jV q bH)) none|_=>none)
   |_=>none)with
  |none=>none
  |some none=>(match ub C Cg with|some bz=>some (bY (ok) (.tuple [bz, .bool false])<|bz)|none=>none)
  |some (some (_,v))=>some (bY (ok) (.tuple [v, .bool true])<|v))
 |_=>none
def M9(h:K ag)(t:Nat)(x:D):Option D:=
 match C.P.underlying t,x with
 |some .string, .str s=>qD .i64 (Int.ofNat s.length)
 |some (.array n _),_=>some (.int .i64 (Int.ofNat n))
 |some (.pointer cm),_=>(match C.P.underlying cm with|some (.array n _)=>some (.int .i64 (Int.ofNat n))|_=>none)
 |some (.slice _), .slice _ _ n _=>qD .i64 (Int.ofNat n)
 |some (.slice _), .fl _ _ n _=>qD .i64 (Int.ofNat n)
 |some (.slice _), .aV=>some (.int .i64 0)
 |some (.map _ _), .mi=>some (.int .i64 0)
 |some (.map _ _), .map r=>(match Y C h r with|some (.map bH _)=>qD .i64 (Int.ofNat bH.length)|_=>none)
 |_,_=>none
def M6(t:Nat)(x:D):Option D:=
 match C.P.underlying t,x with
 |some (.slice _), .slice _ _ _ n=>qD .i64 (Int.ofNat n)
 |some (.slice _), .aV=>some (.int .i64 0)
 |_,_=>none
def nU(g0:Bool):D->List D->Option D
 |v,[]=>some v
 | .int q x, .int _ e::k=>nU g0 (.int q (bY (g0) ((bY (Bb x e) (e)<|x))<|(bY (Bb e x) (e)<|x))) k
 |_,_=>none
def Aj:List D->Option (List Nat)
 |[]=>some []
 | .int .u8 (.ofNat n)::k=>(match Aj k with|some r=>some (n%256::r)|none=>none)
 |_=>none
def ns(h:K ag)(b U n:Nat):Option (List D):=
 match cellsOf C h b with
 |some c=>c.kU U n
 |none=>bY (Nat.beq n 0) (some []) none
def Gr(h:K ag)(x:D):Option D:=
 match x with
 | .aV=>some (.str [])
 | .slice b U len _=>(match ns C h b U len with|some k=>(match Aj k with|some s=>some (.str s)|none=>none)|none=>none)
 | .fl b U len _=>(match ns C h b U len with|some k=>(match Aj k with|some s=>some (.str s)|none=>none)|none=>none)
 |_=>none
def U3(t:Nat)(kh:Array (Nat×Operand))(_:K ag)(av:Operand->Option D):Option D:=
 match Au av kh.toList with|some dr=>M5 C t dr|none=>none
def rt(U:Operand):Bool:=match U with| .const _=>true|_=>false
def PF(op:BinOp)(t:Nat)(x e:Operand)(h:K ag)(av:Operand->Option D):Option D:=
 match av x,av e with|some F,some b=>dw C h op t (rt x||rt e) F b|_,_=>none
def Vb(op:UnOp)(x:Operand)(_:K ag)(av:Operand->Option D):Option D:=
 match av x with|some F=>hp op F|none=>none
def LH(s d:Nat)(x:Operand)(h:K ag)(av:Operand->Option D):Option D:=
 match av x with
 |some F=>(match RA C s d F with
  |some v=>some v
  |none=>(match C.P.underlying s,C.P.underlying d with
   |some (.slice E),some .string=>(match C.P.underlying E with|some (.int .u8)=>Gr C h F|_=>none)
   |_,_=>none))
 |none=>none
def LJ(t:Nat)(x:Operand)(_:K ag)(av:Operand->Option D):Option D:=
 match C.P.underlying t,av x with
 |some (.interface _),_=>none
 |some _,some v=>some (.iface t v)
 |_,_=>none
def U7(fn:Fn)(first fM:Array Operand)(_:K ag)(av:Operand->Option D):Option D:=
 match qo av first.toList,qo av fM.toList with
 |some F,some b=>(match fn with| .func f=>some (.func (.func f) F b)|_=>none)
 |_,_=>none
def Va(t:Nat)(x:Operand)(b0 aN g0:Option Operand)(h:K ag)(av:Operand->Option D):Option D:=
 match av x,Dj av b0,Dj av aN,Dj av g0 with
 |some v,some k,some a,some m=>Nb C h t v k a m
 |_,_,_,_=>none
def LI(t:Nat)(x:Operand)(f:Nat)(_:K ag)(av:Operand->Option D):Option D:=
 match C.P.underlying t,av x with
 |some (.struct j6),some (.agg cs)=>(match o6 j6.toList f with
  |some td=>DX C td.type cs td.offset
  |none=>none)
 |_,_=>none
def U8(t:Nat)(x i:Operand)(_:K ag)(av:Operand->Option D):Option D:=
 match av x,av i with|some F,some b=>M8 C t F b|_,_=>none
def U9(t:Nat)(m q:Operand)(ok:Bool)(h:K ag)(av:Operand->Option D):Option D:=
 match av m,av q with|some F,some b=>Na C h t F b ok|_,_=>none
def LG(x:Operand)(vv:Nat)(ok:Bool)(_:K ag)(av:Operand->Option D):Option D:=
 match C.P.underlying vv,av x with
 |some (.interface _),_=>none
 |some _,some .nilIface=>bY (ok) ((match ub C vv with|some bz=>some (.tuple [bz, .bool false])|none=>none))<|none
 |some _,some (.iface t v)=>bY (Nat.beq t vv) (some (bY (ok) (.tuple [v, .bool true])<|v))<|bY (ok) ((match ub C vv with|some bz=>some (.tuple [bz, .bool false])|none=>none))<|none
 |_,_=>none
def U4(b:Builtin)(args:Array Operand)(c7:Array TypeId)(h:K ag)(av:Operand->Option D):Option D:=
 match b,qo av args.toList with
 | .len,some [x]=>(match c7.toList with|t::_=>M9 C h t x|_=>none)
 | .cap,some [x]=>(match c7.toList with|t::_=>M6 C t x|_=>none)
 | .max,some (x::k)=>nU true x k
 | .min,some (x::k)=>nU false x k
 |_,_=>none
def U5(c:Call)(h:K ag)(av:Operand->Option D):Option D:=
 match c with
 |⟨.builtin b,args,c7⟩=>U4 C b args c7 h av
 |_=>none
def afR:List Nat->Option Nat
 |[]=>none
 |F::k=>match k with|[]=>some F|_=>afR k
def U6(_:Operand)(_:K ag)(_:Operand->Option D):Option D:=(λ_:aL=>none) C
def oz(U:Op):aL->K ag->(Operand->Option D)->Option D:=
 match U with
 | .build t kh=>λC=>U3 C t kh
 | .binOp op t x e _=>λC=>PF C op t x e
 | .unOp op _ x=>λ_=>Vb op x
 | .convert s d x=>λC=>LH C s d x
 | .makeInterface t x=>λC=>LJ C t x
 | .makeFunc fn first fM=>λ_=>U7 fn first fM
 | .slice t x b0 aN g0=>λC=>Va C t x b0 aN g0
 | .field t x f=>λC=>LI C t x f
 | .index t x i=>λC=>U8 C t x i
 | .lookup t m q ok=>λC=>U9 C t m q ok
 | .typeAssert x _ vv ok=>λC=>LG C x vv ok
 | .entry eI=>λC=>U6 C eI
 | .call c=>λC=>U5 C c
 |_=>λ_ _ _=>none
def Ds(c:jZ):Bool:=match c with
 | .fZ _| .C2 _ _=>true
 | .ig _ U=>(match U with
   | .lookup .. | .convert .. | .slice .. | .call _| .binOp .. | .entry _=>true
   |_=>false)
 |_=>false
def Fi(t:Nat)(_:Operand->Option D)(b:Nat):Option (D×ag):=
 match ub C t with|some bz=>some (.ptr b 0, .cells (K.ofList bz.cells 0 .nil) bz.cells.length .own)|none=>none
def LN(x:Operand)(av:Operand->Option D)(b:Nat):Option (D×ag):=
 match av x with|some v=>some (.ptr b 0, .cells (K.ofList v.cells 0 .nil) v.cells.length .own)|none=>none
def LO(t len:Nat)(kh:Array (Nat×Operand))(av:Operand->Option D)(b:Nat):Option (D×ag):=
 match C.P.underlying t,Au av kh.toList with
 |some (.slice eg),some dr=>(match js C eg,ub C eg with
  |some s,some bz=>bY (Nat.ble (len*s) 16777216&&Nat.beq bz.cells.length s) ((match Ck (λi=>some (i*s,s)) (k7 len bz.cells) dr with
    |some cs=>some (.slice b 0 len len, .cells (K.ofList cs 0 .nil) cs.length .own)
    |none=>none))<|none
  |_,_=>none)
 |_,_=>none
def qW(U:Op):aL->(Operand->Option D)->Nat->Option (D×ag):=
 match U with
 | .alloc t=>λC=>Fi C t
 | .box _ x=>λ_=>LN x
 | .buildSlice t len kh=>λC=>LO C t len kh
 | .makeMap _ none=>λ_ _ b=>some (.map b, .map [] 0)
 |_=>λ_ _ _=>none
def qE:List Nat->K ag->K ag
 |[],a=>a
 |b::k,a=>qE k (bn C a b none)
def dN:K D->Nat->List D->K D
 |c,_,[]=>c
 |c,U,v::k=>jz (c.set U (some v)) λc=>dN c (U+1) k
def qJ(v:D):Bool:=match v with| .agg _=>false| .tuple _=>false|_=>true
def jH:List D->Bool
 |[]=>true
 |v::k=>qJ v&&jH k
def xK(h:K ag)(b U:Nat)(a8:List D):Option (K ag):=
 match Y C h b with
 |some (.cells c n st)=>bY (Nat.ble (U+a8.length) n&&kH C b&&jH a8) ((match st with
   | .own=>jz (dN c U a8) λc=>jz (bn C h b (some (.cells c n .own))) λh=>some h
   | .marked=>jz (dN c U a8) λc=>jz (bn C h b (some (.cells c n .marked))) λh=>some h
   | .grow fv=>jz (dN c U a8) λc=>jz (bn C (qE C fv h) b (some (.cells c n (.grow [])))) λh=>some h
   |_=>none))<|none
 |_=>none
def lA(h:K ag)(bl:Nat)(x:D):Option (Nat×List D):=
 match x with
 | .aV=>some (0,[])
 | .slice b U len _=>(match ns C h b U (len*bl)with|some k=>some (len,k)|none=>none)
 | .fl b U len _=>(match ns C h b U (len*bl)with|some k=>some (len,k)|none=>none)
 | .str s=>bY (Nat.beq bl 1) (some (s.length,s.map λn=>D.int .u8 (Int.ofNat n))) none
 |_=>none
inductive d6 where
 |val (v:D)
 |fs (v:D) (h:K ag) (j:Nat)
 |enter (f:Nat) (args:List D)
 |known (f:Nat) (args:List D) (v:D)
 |round (k:Nat) (args:List D)
 |defer (d:hI)
 |recover
 |panic (v:D)
 |fork (k:List (D×K ag))
def nE(C:aL)(h:K ag)(j:Nat)(U:ag)(q:Nat->D):Option d6:=
 q6 j λj=>jz (bn C h j (some U)) λh=>some (.fs (q j) h (j+1))
def uA(h:K ag)(j n bl:Nat)(k:List D):Option d6:=
 bY (Nat.ble n 1048576) (nE C h j (.cells (K.ofList k 0 .nil) k.length (.grow [])) λb=> .fl b 0 n bl)<|none
def JF(h:K ag)(j:Nat)(b U len bl n:Nat)(k:List D):Option d6:=
 match Y C h b with
 |some (
   .cells c size (.grow fv))=>bY (kH C b)
  (bY (
   Nat.ble (U+(len+n)*bl) size)
   (match xK C h b (U+len*bl) k with|some T=>some (.fs (.fl b U (len+n) bl) T j)|none=>none)
   (bY (Nat.ble (len+n) 1048576&&jH k) (bY (Nat.beq (U+len*bl) size&&Nat.beq U 0)
    (jz (dN c size k) λf5=>nE C (bn C h b (some (.cells c size .ki))) j (.cells f5 (size+k.length) (.grow (b::fv))) λdO=> .fl dO 0 (len+n) bl)
    (match c.kU U (len*bl)with
    |some fT=>nE C (bn C (qE C fv h) b none) j (.cells (K.ofList (fT++k) 0 .nil) (fT++k).length (.grow [])) λdO=> .fl dO 0 (len+n) bl
    |none=>none)) none)) none
 |_=>none
def Af(h:K ag)(j:Nat)(bl n:Nat)(k:List D)(s:D):Option d6:=
 match s with
 | .aV=>uA C h j n bl k
 | .slice b U len cap=>bY (Nat.ble (len+n) cap) ((match xK C h b (U+len*bl) k with|some T=>some (.fs (.slice b U (len+n) cap) T j)|none=>none))<|(match ns C h b U (len*bl)with
    |some fT=>uA C h j (len+n) bl (fT++k)
    |none=>none)
 | .fl b U len yT=>bY (Nat.beq yT bl) (JF C h j b U len bl n k)<|none
 |_=>none
def Gv(h:K ag)(bl:Nat)(s:D):Option d6:=
 match s with
 | .aV=>some (.val .aV)
 | .slice b U len cap=>bY (Nat.ble len cap) (some (.val (.slice b U len cap))) none
 | .fl b U len yT=>bY (Nat.beq yT bl) (match yR C h b with
   |some n=>bY (Nat.ble (U+len*bl) n) (some (.val (.fl b U len yT))) none
   |none=>none) none
 |_=>none
def M7(h:K ag)(j:Nat)(st:Nat)(s:D)(n:Nat):Option d6:=
 match C.P.underlying st with
 |some (.slice eg)=>(match C.P.info? eg,ub C eg with
  |some i,some bz=>bY (Nat.blt 0 i.size&&Nat.ble i.bytes 65536&&Nat.beq bz.cells.length i.size&&Nat.ble n 1048576) (bY (Nat.beq n 0) (Gv C h i.size s)<|Af C h j i.size n (k7 n bz.cells) s)<|none
  |_,_=>none)
 |_=>none
def aiz(i:TypeInfo):Bool:=match i.zero with|some bz=>Nat.beq bz.cells.size i.size|none=>false
def Gp(h:K ag)(j:Nat)(st:Nat)(s x:D):Option d6:=
 match C.P.underlying st with
 |some (.slice eg)=>(match C.P.info? eg with
  |some i=>(match lA C h i.size x with
   |some (n,k)=>bY (Nat.blt 0 i.size&&Nat.ble i.bytes 65536&&aiz i) ((bY (Nat.beq n 0) (Gv C h i.size s)<|Af C h j i.size n k s))<|none
   |none=>none)
  |none=>none)
 |_=>none
def aCx(h:K ag)(j:Nat)(b U m:Nat)(k:List D):Option d6:=
 bY (Nat.beq m 0) (some (.val (.int .i64 0)))<|
 (match xK C h b U k with|some T=>some (.fs (.int .i64 (Int.ofNat m)) T j)|none=>none)
def setObj(h:K ag)(j:Nat)(r:Nat)(U:ag)(v:D):Option d6:=
 bY (kH C r) (jz (bn C h r (some U)) λh=>some (.fs v h j))<|none
def JC(h:K ag)(j:Nat)(t:Nat)(m q v:D):Option d6:=
 match C.P.underlying t,m with
 |some (.map jV _), .map r=>(match Y C h r with
  |some (.map bH eR)=>bY (np C 20 jV q) (match findKey C h jV q bH 0 with
   |some (some (i,_))=>(match o6 bH i with
    |some (e5,_,born)=>bY (ob 20 e5 q) (setObj C h j r (.map (bH.set i (q,v,born)) eR) undef) none
    |none=>none)
   |some none=>setObj C h j r (.map (bH++[(q,v,eR)]) (eR+1)) undef
   |none=>none) none
  |_=>none)
 |_,_=>none
def P9(x e:D):Bool:=match x,e with
    | .bool F, .bool b=>GF F b
    | .int q F, .int e5 b=>mD q e5&&uY F b
    | .str F, .str b=>na F b
    | .aV, .aV=>true
    | .cx, .cx=>true
    | .nilIface, .nilIface=>true
    |_,_=>false
def FC:List D->List D->Bool
 |[],[]=>true
 |F::x,b::e=>P9 F b&&FC x e
 |_,_=>false
def known(f:Nat)(args:List D):List (Nat×List D×D)->Option D
 |[]=>none
 |(g,cv,v)::k=>bY (Nat.beq f g&&FC args cv) (some v)<|known f args k
def s3(f:Nat)(args:List D):Option d6:=
 match C.hh f args with
 |some v=>some (.known f args v)
 |none=>(match C.P.funcs[f]? with
  |some fn=>(match fn.body with
   |some _=>some (.enter f args)
   |none=>none)
  |none=>none)
def B3(fn:Fn)(fM args:List D):Option d6:=
 match fn with
 | .func f=>s3 C f (args++fM)
 | .yield k=>some (.round k args)
 |_=>none
def Gq(h:K ag)(t:Nat)(v:D)(name:String)(args:List D):Option d6:=
 match C.P.info? t with
 |some i=>(match i.methods.find? (·.name==name)with
  |some m=>bY m.path.isEmpty (match m.func,C.P.underlying t with
   |some (f,true),some (.pointer _)=>s3 C f (v::args)
   |some (f,false),some (.pointer E)=>(match l0 C h E v with|some x=>s3 C f (x::args)|none=>none)
   |some (f,false),some _=>s3 C f (v::args)
   |_,_=>none) none
  |none=>none)
 |none=>none
def Qv(h:K ag)(j s:Nat)(F v:D):Option d6:=
 match F with
 | .ptr b U=>bY (Nat.beq v.cells.length s&&Nat.blt 0 s) ((match xK C h b U v.cells with|some T=>some (.fs undef T j)|none=>none))<|none
 |_=>none
def Hg(t:Nat)(m q x:Operand)(h:K ag)(j:Nat)(av:Operand->Option D):Option d6:=
 match av m,av q,av x with
 |some m,some q,some v=>JC C h j t m q v
 |_,_,_=>none
def Ky(_:Nat)(_ _:Operand)(_:K ag)(_:Nat)(_:Operand->Option D):Option d6:=(λ_:aL=>none) C
def Kq(_ _ _:Operand)(_:K ag)(_:Nat)(_:Operand->Option D):Option d6:=(λ_:aL=>none) C
def Kx(t:Nat)(k c:Operand)(h:K ag)(j:Nat)(av:Operand->Option D):Option d6:=
 match C.P.underlying t,av k,av c with
 |some (.slice eg),some k,some c=>(match nD k,nD c,C.P.info? eg,ub C eg with
  |some k,some c,some i,some bz=>bY (Nat.ble k c&&Nat.ble c 1048576&&Nat.ble i.bytes 65536&&Nat.blt 0 i.size&&Nat.beq bz.cells.length i.size) (nE C h j (.cells (K.ofList (k7 c bz.cells) 0 .nil) (c*i.size) .own) λb=> .slice b 0 k c)<|none
  |_,_,_,_=>none)
 |_,_,_=>none
def Kw(t:Nat)(r:Operand)(h:K ag)(j:Nat)(av:Operand->Option D):Option d6:=
 match C.P.underlying t,av r with
 |some (.map _ _),some (.int _ _)=>nE C h j (.map [] 0) λb=> .map b
 |_,_=>none
def KB(s d:Nat)(x:Operand)(h:K ag)(j:Nat)(av:Operand->Option D):Option d6:=
 match C.P.underlying s,C.P.underlying d,av x with
 |some .string,some (.slice E),some (.str k)=>(match C.P.underlying E with
  |some (.int .u8)=>uA C h j k.length 1 (k.map λn=>D.int .u8 (Int.ofNat n))
  |_=>none)
 |some (.slice _),some (.slice E),some (.slice b U len cap)=>(match C.P.underlying E with
  |some (.int .u8)=>bY (Nat.beq s d&&kH C b) (match Y C h b with
   |some (.cells c n .own)=>jz (bn C h b (some (.cells c n .marked))) λh=>some (.fs (.slice b U len cap) h j)
   |some (.cells _ _ .marked)=>some (.val (.slice b U len cap))
   |_=>none) none
  |_=>none)
 |_,_,_=>none
def Kz(t:Nat)(x:Operand)(h:K ag)(j:Nat)(av:Operand->Option D):Option d6:=
 match C.P.underlying t,av x with
 |some .string,some (.str s)=>nE C h j (.pb s 0) λb=> .ptr b 0
 |some (.map _ _),some .mi=>nE C h j (.Bk none 0 [] 0) λb=> .ptr b 0
 |some (.map _ _),some (.map r)=>(match Y C h r with
  |some (.map _ eR)=>nE C h j (.Bk (some r) eR [] eR) λb=> .ptr b 0
  |_=>none)
 |_,_=>none
def o5(n:Nat):List Nat->Bool
 |[]=>false
 |F::k=>Nat.beq n F||o5 n k
def yc(eI:Operand)(Bd:Bool)(h:K ag)(j:Nat)(av:Operand->Option D):Option d6:=
 match av eI with
 |some (.ptr r 0)=>bY (kH C r) (match Y C h r,Bd with
  |some (.pb s pos),true=>bY (Nat.blt pos s.length) (match o6 s pos with
    |some c=>bY (Nat.blt c 128) (setObj C h j r (.pb s (pos+1)) (.tuple [.bool true, .int .i64 (Int.ofNat pos), .int .i32 (Int.ofNat c)])) none
    |none=>none)
   (some (.val (.tuple [.bool false])))
  |some (.Bk none _ _ _),false=>some (.val (.tuple [.bool false]))
  |_,_=>none) none
 |_=>none
def Tn(x:Operand)(_:K ag)(_:Nat)(av:Operand->Option D):Option d6:=
 match av x with|some (.iface t v)=>some (.panic (.iface t v))|_=>none
def S6(c:Call)(_:K ag)(_:Nat)(av:Operand->Option D):Option d6:=
 match c with
 |⟨.value f,args,_⟩=>(match av f,qo av args.toList with
  |some (.func fn first fM),some cv=>some (.defer ⟨.fn fn fM,first++cv⟩)
  |_,_=>none)
 |_=>none
def Kk(b:Builtin)(args:Array Operand)(c7:Array TypeId)(h:K ag)(j:Nat)(av:Operand->Option D):Option d6:=
 match b,qo av args.toList with
 | .append,some [s,x]=>(match c7.toList with
   |st::iE::_=>(match C.P.underlying iE with
    |some (.int _)=>(match nD x with|some n=>M7 C h j st s n|none=>none)
    |some (.slice _)=>Gp C h j st s x
    |some .string=>Gp C h j st s x
    |_=>none)
   |_=>none)
 | .recover,some []=>some .recover
 |_,_=>none
def Et(c:Call)(h:K ag)(j:Nat)(av:Operand->Option D):Option d6:=
 match c with
 |⟨.value f,args,_⟩=>(match av f,qo av args.toList with
  |some (.func fn first fM),some cv=>B3 C fn fM (first++cv)
  |_,_=>none)
 |⟨.builtin b,args,c7⟩=>Kk C b args c7 h j av
 |⟨.invoke r name,args,_⟩=>(match av r,qo av args.toList with
  |some (.iface t v),some cv=>Gq C h t v name cv
  |_,_=>none)
def nT(U:Op):aL->K ag->Nat->(Operand->Option D)->Option d6:=
 match U with
 | .mapUpdate t m q x=>λC=>Hg C t m q x
 | .insert t m q x=>λC=>Hg C t m q x
 | .mapEntry t m q=>λC=>Ky C t m q
 | .entryStore _ m s x=>λC=>Kq C m s x
 | .makeSlice t k c=>λC=>Kx C t k c
 | .makeMap t (some r)=>λC=>Kw C t r
 | .convert s d x=>λC=>KB C s d x
 | .range t x=>λC=>Kz C t x
 | .next eI Bd=>λC=>yc C eI Bd
 | .panic x=>λ_=>Tn x
 | .defer c=>λ_=>S6 c
 | .call c=>λC=>Et C c
 |_=>λ_ _ _ _=>none
end ar
def lm(x:kC):List (Nat×D)->K D->Option D:=
 match x with
 | .v W=>λaq _=>eo aq W
 | .t n=>λ_ H=>H.get n
 | .c F=>λ_ _=>some F
def Ch(aq:List (Nat×D))(H:K D):List kC->Option (List D)
 |[]=>some []
 |x::k=>match lm x aq H with
  |none=>none
  |some v=>match Ch aq H k with
   |none=>none
   |some r=>some (v::r)
def ji(b8:List (Nat×Nat))(aq:List (Nat×D))(H:K D)(U:Operand):Option D:=match U with
 | .tmp t=>(match eo b8 t with|some W=>eo aq W|none=>H.get t)
 | .const v=>Fw v
 | .global g=>some (.ptr g 0)
 | .func f=>some (.func (.func f) [] [])
def hv(d:Nat)(v:D):Option D:=match v with| .ptr b U=>some (.ptr b (U+d))|_=>none
def QO(c:D)(F b:kC)(aq:List (Nat×D))(H:K D):Option D:=match c with
 | .bool c=>bY c (lm F aq H) (lm b aq H)
 |_=>none
def MD(n bl:Nat)(x:D)(i:Nat):Option D:=match x with| .ptr b U=>bY (Nat.blt i n) (some (.ptr b (U+i*bl))) none|_=>none
def DA(bl:Nat)(x:D)(i:Nat):Option D:=match x with
 | .slice b U len _=>bY (Nat.blt i len) (some (.ptr b (U+i*bl))) none
 | .fl b U len _=>bY (Nat.blt i len) (some (.ptr b (U+i*bl))) none
 |_=>none
def rN(v:D):Option D:=match v with
 | .ptr b U=>some (.ptr b U)
 | .func fn F b=>(match fn with| .func f=>some (.func (.func f) F b)| .yield f=>some (.func (.yield f) F b)|_=>none)
 | .iface t v=>some (.iface t v)
 |_=>none
def pg(i:Nat)(v:D):Option D:=match v with| .tuple a8=>o6 a8 i|_=>none
def gW(U:jZ):aL->K ag->List (Nat×D)->K D->Option D:=
 match U with
 | .Fl x=>λ_ _=>lm x
 | .pick c F b=>λ_ _ aq H=>(match lm c aq H with|some c=>QO c F b aq H|none=>none)
 | .fZ F=>λC h aq H=>(match lm F aq H with|some F=>aO C h F|none=>none)
 | .C2 n F=>λC h aq H=>(match lm F aq H with|some F=>d8 C h n F|none=>none)
 | .off d x=>λ_ _ aq H=>(match lm x aq H with|some F=>hv d F|none=>none)
 | .CV n bl x i=>λ_ _ aq H=>(match lm x aq H with|some F=>(match lm i aq H with|some i=>(match nD i with|some i=>MD n bl F i|none=>none)|none=>none)|none=>none)
 | .CW bl x i=>λ_ _ aq H=>(match lm x aq H with|some F=>(match lm i aq H with|some i=>(match nD i with|some i=>DA bl F i|none=>none)|none=>none)|none=>none)
 | .Fs x=>λ_ _ aq H=>(match lm x aq H with|some F=>rN F|none=>none)
 | .Ls op x e=>λ_ _ aq H=>(match lm x aq H with|some F=>(match lm e aq H with|some b=>bq op F b|none=>none)|none=>none)
 | .ext i x=>λ_ _ aq H=>(match lm x aq H with|some F=>pg i F|none=>none)
 | .ig b8 U=>λC h aq H=>oz U C h (ji b8 aq H)
 |_=>λ_ _ _ _=>none
def oJ(U:jZ):aL->Nat->List (Nat×D)->K D->Option (D×ag):=
 match U with
 | .make b8 U=>λC b aq H=>qW U C (ji b8 aq H) b
 |_=>λ_ _ _ _=>none
def hU(U:jZ):aL->K ag->Nat->List (Nat×D)->K D->Option d6:=
 match U with
 | .st n F v=>λC h j aq H=>(match lm F aq H with|some F=>(match lm v aq H with|some v=>Qv C h j n F v|none=>none)|none=>none)
 | .call f args=>λC _ _ aq H=>(match Ch aq H args with|some cv=>s3 C f cv|none=>none)
 | .fp b8 U=>λC h j aq H=>nT U C h j (ji b8 aq H)
 |_=>λ_ _ _ _ _=>none
inductive aiV where|ig|make|fp
def m6(U:jZ):aiV:=match U with
 | .st .. => .fp| .call .. => .fp| .fp .. => .fp
 | .make .. => .make
 |_=> .ig
def PK(U:jZ)(C:aL)(h:K ag)(j:Nat)(aq:List (Nat×D))(H:K D):Option d6:=
 q6 j λj=>(match oJ U C j aq H with|some (v,cY)=>jz (bn C h j (some cY)) λh=>some (.fs v h (j+1))|none=>none)
def bit(m i:Nat):Bool:=Nat.beq (Nat.mod (Nat.div m (Nat.pow 2 i)) 2) 1
def ng(b8:List (Nat×Nat))(U:Operand):Option kC:=match U with
 | .tmp t=>(match eo b8 t with|some W=>some (.v W)|none=>some (.t t))
 | .const v=>(match Fw v with|some F=>some (.c F)|none=>none)
 | .global g=>some (.c (.ptr g 0))
 | .func f=>some (.c (.func (.func f) [] []))
def I2(b8:List (Nat×Nat)):List Operand->Option (List kC)
 |[]=>some []
 |x::k=>match ng b8 x,I2 b8 k with|some v,some r=>some (v::r)|_,_=>none
def avL(C:aL)(s d:Nat):Bool:=match C.P.underlying s,C.P.underlying d with
 |some .string,some (.slice _)=>true
 |some (.slice _),some (.slice _)=>true
 |_,_=>false
def avI(C:aL)(t:Nat):Bool:=match C.P.underlying t with|some (.int _)=>true|_=>false
def l3(C:aL)(b8:List (Nat×Nat))(U:Op):Option jZ:=
 match U with
 | .move x| .assign x=>(match ng b8 x with|some x=>some (.Fl x)|none=>none)
 | .pick c F b=>(match ng b8 c,ng b8 F,ng b8 b with|some c,some F,some b=>some (.pick c F b)|_,_,_=>none)
 | .load t F=>(match ng b8 F,E8 C t,js C t with
   |some F,some true,some s=>some (.C2 s F)
   |some F,some false,_=>some (.fZ F)
   |_,_,_=>none)
 | .fieldAddr s x f=>(match C.P.underlying s,ng b8 x with
   |some (.struct j6),some x=>(match o6 j6.toList f with
    |some td=>(match js C td.type with|some bz=>bY (Nat.beq bz 0) (none)<|some (.off td.offset x)|none=>none)
    |none=>none)
   |_,_=>none)
 | .indexAddr t x i=>(match C.P.underlying t,ng b8 x,ng b8 i with
   |some (.array n eg),some x,some i=>(match js C eg with|some bl=>some (.CV n bl x i)|none=>none)
   |some (.slice eg),some x,some i=>(match js C eg with|some bl=>some (.CW bl x i)|none=>none)
   |_,_,_=>none)
 | .nilCheck x=>(match ng b8 x with|some x=>some (.Fs x)|none=>none)
 | .binOp op t x e I9=>bY (avI C t) ((match ng b8 x,ng b8 e with|some x,some e=>some (.Ls op x e)|_,_=>none))<|some (.ig b8 (.binOp op t x e I9))
 | .extract x i=>(match ng b8 x with|some x=>some (.ext i x)|none=>none)
 | .store t F x=>(match ng b8 F,ng b8 x,js C t with|some F,some x,some s=>some (.st s F x)|_,_,_=>none)
 | .call ⟨.value (.func f),args,c7⟩=>(match I2 b8 args.toList with|some cv=>some (.call f cv)|none=>none)
 | .call ⟨.builtin b,args,c7⟩=>(match b with
   | .len| .cap| .max| .min=>some (.ig b8 (.call ⟨.builtin b,args,c7⟩))
   |_=>some (.fp b8 (.call ⟨.builtin b,args,c7⟩)))
 | .call c=>some (.fp b8 (.call c))
 | .convert s d x=>bY (avL C s d) (some (.fp b8 (.convert s d x)))<|some (.ig b8 (.convert s d x))
 | .alloc t=>some (.make b8 (.alloc t))
 | .box t x=>some (.make b8 (.box t x))
 | .buildSlice t k p=>some (.make b8 (.buildSlice t k p))
 | .makeMap t none=>some (.make b8 (.makeMap t none))
 | .makeMap t (some r)=>some (.fp b8 (.makeMap t (some r)))
 | .mapUpdate t m q x=>some (.fp b8 (.mapUpdate t m q x))
 | .insert t m q x=>some (.fp b8 (.insert t m q x))
 | .mapEntry t m q=>some (.fp b8 (.mapEntry t m q))
 | .entryStore t m s x=>some (.fp b8 (.entryStore t m s x))
 | .makeSlice t k c=>some (.fp b8 (.makeSlice t k c))
 | .range t x=>some (.fp b8 (.range t x))
 | .next i s=>some (.fp b8 (.next i s))
 | .panic x=>some (.fp b8 (.panic x))
 | .defer c=>some (.fp b8 (.defer c))
 |U=>some (.ig b8 U)
def xX(W:Nat):List (Nat×Nat)->Option Nat
 |[]=>none
 |(t,i)::k=>bY (Nat.beq i W) (some t)<|xX W k
def JO(ek:List (Nat×Nat))(g:Option (Nat×Bool)):Option (Option (Nat×Bool)):=match g with
 |none=>some none
 |some (W,lT)=>(match xX W ek with
  |some t=>(match eo ek t with
   |some pO=>bY (Nat.beq W pO) (some (some (W,lT)))<|none
   |none=>none)
  |none=>none)
def Ad(U:Oper)(i:Nat)(ek:List (Nat×Nat)):List (Nat×Nat):=match U.dst with|some d=>(d,i)::ek|none=>ek
def Nz(n:Nat)(U:Oper):Bool:=match U.dst with|some d=>Nat.blt d n|none=>true
def Bo(C:aL)(ao:Nat)(b8:List (Nat×Nat))(U:Operand):Bool:=match U with
 | .tmp t=>(match eo b8 t with|some _=>true|none=>bit ao t)
 | .global g=>Nat.blt g C.p0
 |_=>true
def Fy(C:aL)(ao:Nat)(b8:List (Nat×Nat)):List Operand->Bool
 |[]=>true
 |x::k=>Bo C ao b8 x&&Fy C ao b8 k
def s8(C:aL)(n ao:Nat):List Oper->Nat->List (Nat×Nat)->Option (List ft)
 |[],_,_=>some []
 |U::k,i,ek=>q6 i λi=>match JO ek U.guard,l3 C ek U.op with
  |some g,some op=>bY (Nz n U&&Fy C ao ek U.op.operands.toList) (match s8 C n ao k (i+1) (Ad U i ek)with|some r=>some (⟨i,g,op⟩::r)|none=>none) none
  |_,_=>none
def lo(ao:Nat):List Oper->Nat->List (Nat×Nat)
 |[],_=>[]
 |U::k,i=>match U.dst with
  |some d=>bY (bit ao d) ((i,d)::lo ao k (i+1))<|lo ao k (i+1)
  |none=>lo ao k (i+1)
def dstsOf:List Oper->List Nat
 |[]=>[]
 |U::k=>match U.dst with|some d=>d::dstsOf k|none=>dstsOf k
structure Rb where
 rest:List ft
 fin:List (Nat×Nat)
def LS(C:aL)(n:Nat)(ar:Array Oper)(ao:Nat):Option Rb:=
 match s8 C n ao ar.toList 0 []with
 |some cs=>some ⟨cs,lo ao ar.toList 0⟩
 |none=>none
def IB(U:Operand)(m:Nat):Nat:=match U with| .tmp t=>Nat.lor m (Nat.pow 2 t)|_=>m
def IC(k:List Operand):Nat:=k.foldr IB 0
def JZ(U:Oper):Nat:=match U.dst with|some d=>Nat.pow 2 d|none=>0
def N8(ek:List (Nat×Nat))(g:Option (Nat×Bool)):Nat:=match g with
 |none=>0
 |some (W,_)=>(match xX W ek with|some t=>Nat.pow 2 t|none=>0)
def Ed(iC:List (Nat×Nat))(E:Edge)(m:Nat):Nat:=
 bY (bit m E.on) (m)<|bY (Region.binds .any E) ((match eo iC E.on with|some q=>Nat.lor (Nat.lor m q) (Nat.pow 2 E.on)|none=>m))<|m
structure gk where
 i:Nat
 m:Nat
 r:Nat
 w:Nat
def C9:List Oper->Nat->List (Nat×Nat)->List (Nat×Nat)->List gk
 |[],_,_,_=>[]
 |U::k,i,ek,iC=>q6 i λi=>q6 (U.after.toList.foldr (Ed iC) 0) λm=>
  ⟨i,m,Nat.lor (IC U.op.operands.toList) (N8 ek U.guard),JZ U⟩::C9 k (i+1) (Ad U i ek) ((i,m)::iC)
def PZ(F b:gk):Bool:=
 bit b.m F.i||(Nat.beq (Nat.land F.w (Nat.lor b.r b.w)) 0&&Nat.beq (Nat.land b.w F.r) 0)
def P3(F:gk):List gk->Bool
 |[]=>true
 |b::k=>PZ F b&&P3 F k
def L2:List gk->Bool
 |[]=>true
 |F::k=>P3 F k&&L2 k
def KO:List gk->Bool
 |[]=>true
 |F::k=>(match k with|[]=>true|b::_=>bit b.m F.i)&&KO k
def Fx:List Oper->Nat->Bool
 |[],_=>true
 |U::k,i=>U.after.toList.all (λE=> !Region.binds .any E||Nat.blt E.on i)&&Fx k (i+1)
def vC(m:Nat):List gk->Nat
 |[]=>0
 |a::k=>bY (bit m a.i) (Nat.succ (vC m k))<|vC m k
def CB(i:Nat):List gk->Nat
 |[]=>0
 |a::k=>bY (bit a.m i) (0)<|Nat.succ (CB i k)
structure qf where
 x:ft
 b0:Nat
 aN:Nat
def n7(U:jZ):Bool:=match m6 U with| .fp=>true|_=>false
def Hn:List gk->List ft->List (gk×ft)
 |p::dr,c::cs=>bY (n7 c.op) ((p,c)::Hn dr cs)<|Hn dr cs
 |_,_=>[]
def Ig(aF:List gk):List gk->List ft->List qf
 |p::dr,c::cs=>bY (n7 c.op) (Ig aF dr cs)<|⟨c,vC p.m aF,CB p.i aF⟩::Ig aF dr cs
 |_,_=>[]
def ui(q:Nat):List qf->List ft
 |[]=>[]
 |k::iB=>bY (Nat.beq k.b0 q) (k.x::ui q iB)<|ui q iB
def FH(q:Nat):List qf->List ft
 |[]=>[]
 |k::iB=>bY (Nat.blt k.b0 q&&Nat.ble q k.aN&&Ds k.x.op) (k.x::FH q iB)<|FH q iB
def Bl(iB:List qf):Nat->List (gk×ft)->List xJ
 |q,[]=>[⟨ui q iB,FH q iB,none⟩]
 |q,(_,af)::k=>⟨ui q iB,FH q iB,some af⟩::Bl iB (q+1) k
def q7:List (gk×ft)->List gk
 |[]=>[]
 |(p,_)::k=>p::q7 k
structure Ra where
 lB:List xJ
 fin:List (Nat×Nat)
def LR(C:aL)(n:Nat)(ar:Array Oper)(ao:Nat):Option Ra:=
 match s8 C n ao ar.toList 0 []with
 |none=>none
 |some cs=>(λall=>(λaF=>bY (Fx ar.toList 0&&L2 all&&KO (q7 aF)) (some ⟨Bl (Ig (q7 aF) all cs) 0 aF,lo ao ar.toList 0⟩)<|none) (Hn all cs)) (C9 ar.toList 0 [] [])
def acm:List Oper->Nat->Nat->Nat
 |[],_,r=>r
 |U::k,abS,r=>acm k (Nat.lor abS (JZ U)) ((λrd=>Nat.lor r (Nat.xor rd (Nat.land rd abS))) (IC U.op.operands.toList))
def kv:Code->Nat
 | .region _ ar _=>acm ar.toList 0 0
 | .seq F b=>Nat.lor (kv F) (kv b)
 | .cond c F b=>IB c (Nat.lor (kv F) (kv b))
 | .block _ b=>kv b
 | .loop b=>kv b
 | .scope b=>kv b
 | .rangeFunc f _ F b=>IB f (Nat.lor (kv F) (kv b))
 |_=>0
def oh(k:List ResultVar):Nat:=k.foldr (λx r=>match x with| .tmp t=>Nat.lor r (Nat.pow 2 t)| .cell F _=>Nat.lor r (Nat.pow 2 F)) 0
def l4(C:aL)(ao:Nat):Code->Bool
 | .seq F b=>l4 C ao F&&l4 C ao b
 | .cond c F b=>Bo C ao [] c&&(l4 C ao F&&l4 C ao b)
 | .block _ b=>l4 C ao b
 | .loop b=>l4 C ao b
 | .scope b=>l4 C ao b
 | .rangeFunc f _ F b=>Bo C ao [] f&&(l4 C ao F&&l4 C ao b)
 |_=>true
def Bs(ao:Nat):List ResultVar->Bool
 |[]=>true
 | .tmp t::k=>bit ao t&&Bs ao k
 | .cell F _::k=>bit ao F&&Bs ao k
end
end Go.bd
@[match_pattern]abbrev Go.bd.D.Z(x:Int):Go.bd.D:=.int .i64 x
@[match_pattern]abbrev Go.bd.D.zF:Go.bd.D:=.bool false
@[match_pattern]abbrev Go.bd.D.zT:Go.bd.D:=.bool true
namespace Go.bd
@[simp] def eX{α:Type _}(F b:α):bY true F b=F:=rfl
@[simp] def j3{α:Type _}(F b:α):bY false F b=b:=rfl
def fA{α:Type _}(c:Bool)(F b:α):bY c F b=if c=true then F else b:=by cases c<;>rfl
def hK{α:Type _}(x e:Nat)(F b:α):bY (Nat.beq x e) F b=if x=e then F else b:=by
 rw[fA];by_cases a:x=e
 ·rw[Zu a,Zu (Nat.beq_eq▸a)]
 ·rw[Zg a,Zg (λE=>a (Zl E))]
@[simp] def e1{α:Type _}(c:Bool)(F:Option α)(v:α):bY c F none=some v↔c=true/\F=some v:=by cases c<;>simp
@[simp] def ms{eD:Type}(n:Nat)(q:Nat->eD):q6 n q=q n:=by cases n<;>rfl
@[simp] def GY{eD:Type}(n:Int)(q:Int->eD):SE n q=q n:=by
  cases n with
  |ofNat m=>exact ms m λm=>q (.ofNat m)
  |negSucc m=>exact ms m λm=>q (.negSucc m)
@[simp] def hk{α eD:Type}(t:K α)(q:K α->eD):jz t q=q t:=by cases t<;>rfl
@[simp] def anv{α:Type}(W:Nat):eo ([]:List (Nat×α)) W=none:=rfl
def r1{α:Type}(F:Nat)(b:α)(k:List (Nat×α))(W:Nat):eo ((F,b)::k) W=if F=W then some b else eo k W:=by
 show bY (Nat.beq F W) (some b) (eo k W)=_
 rw[hK]
@[simp] def qG{α:Type}(k:List α):∀i,o6 k i=k[i]? :=by
  induction k with
  |nil=>intro i;rfl
  |cons F k al=>intro i;cases i with
   |zero=>rfl
   |succ W=>exact al W
namespace K
variable{α:Type}
@[simp] def aCD(i:Nat):(K.nil:K α).get i=none:=rfl
@[simp] def aCE(v:Option α)(k r:K α):(K.node v k r).get 0=v:=rfl
def Cm(v:Option α)(k r:K α)(W:Nat):(K.node v k r).get (W+1)=if W%2=0 then k.get (W/2)else r.get (W/2):=by
 show bY (Nat.beq (W%2) 0) (k.get (W/2)) (r.get (W/2))=_
 rw[hK]
def az6(f:Nat)(F:Option α):sB (f+1) K.nil 0 F= .node F .nil .nil:=rfl
def az5(f W:Nat)(F:Option α):sB (f+1) K.nil (W+1) F=
 if W%2=0 then .node none (sB f .nil (W/2) F) .nil else .node none .nil (sB f .nil (W/2) F):=by
 show bY (Nat.beq (W%2) 0) (jz (sB f .nil (W/2) F) λbV=>K.node none bV K.nil) (jz (sB f .nil (W/2) F) λgb=>K.node none K.nil gb)=_
 rw[hK,hk,hk]
def az8(f:Nat)(v:Option α)(k r:K α)(F:Option α):sB (f+1) (.node v k r) 0 F= .node F k r:=rfl
def az7(f W:Nat)(v:Option α)(k r:K α)(F:Option α):sB (f+1) (.node v k r) (W+1) F=
 if W%2=0 then .node v (sB f k (W/2) F) r else .node v k (sB f r (W/2) F):=by
 show bY (Nat.beq (W%2) 0) (jz (sB f k (W/2) F) λbV=>K.node v bV r) (jz (sB f r (W/2) F) λgb=>K.node v k gb)=_
 rw[hK,hk,hk]
def aqQ:∀(f:Nat) (t:K α) (i W:Nat) (F:Option α),i<f->(sB f t i F).get W=if i=W then F else t.get W:=by
 intro f
 induction f with
 |zero=>intro t i W F a;omega
 |succ f al=>
  intro t i W F a
  cases i with
  |zero=>
   cases t with
   |nil=>rw[az6];cases W with
    |zero=>simp
    |succ W=>rw[Cm];simp
   |node v k r=>rw[az8];cases W with
    |zero=>simp
    |succ W=>rw[Cm,Cm];simp
  |succ i=>
   have aN:i/2<f:=Zo
   cases t with
   |nil=>
    rw[az5]
    cases W with
    |zero=>split<;>simp
    |succ W=>
     by_cases E:i%2=0
     ·rw[Zu E,Cm]
      by_cases iw:W%2=0
      ·rw[Zu iw,al _ _ _ _ aN]
       by_cases ah:i/2=W/2
       ·rw[Zu ah,Zu Zo]
       ·rw[Zg ah,Zg Zo];rfl
      ·rw[Zg iw,Zg Zo];rfl
     ·rw[Zg E,Cm]
      by_cases iw:W%2=0
      ·rw[Zu iw,Zg Zo];rfl
      ·rw[Zg iw,al _ _ _ _ aN]
       by_cases ah:i/2=W/2
       ·rw[Zu ah,Zu Zo]
       ·rw[Zg ah,Zg Zo];rfl
   |node v k r=>
    rw[az7]
    cases W with
    |zero=>split<;>simp
    |succ W=>
     rw[Cm v k r]
     by_cases E:i%2=0
     ·rw[Zu E,Cm]
      by_cases iw:W%2=0
      ·rw[Zu iw,Zu iw,al _ _ _ _ aN]
       by_cases ah:i/2=W/2
       ·rw[Zu ah,Zu Zo]
       ·rw[Zg ah,Zg Zo]
      ·rw[Zg iw,Zg iw,Zg Zo]
     ·rw[Zg E,Cm]
      by_cases iw:W%2=0
      ·rw[Zu iw,Zu iw,Zg Zo]
      ·rw[Zg iw,Zg iw,al _ _ _ _ aN]
       by_cases ah:i/2=W/2
       ·rw[Zu ah,Zu Zo]
       ·rw[Zg ah,Zg Zo]
def kI(t:K α)(i W:Nat)(F:Option α):(t.set i F).get W=if i=W then F else t.get W:=aqQ _ _ _ _ _ Zo
def N0(k:List α):∀(i:Nat) (t:K α) (W:Nat),(ofList k i t).get W=if i<=W/\W<i+k.length then k[W-i]? else t.get W:=by
 induction k with
 |nil=>intro i t W;simp only[ofList,ZT];rw[Zg Zo]
 |cons F k al=>
  intro i t W
  simp only[ofList,hk]
  rw[al,kI]
  by_cases E:i=W
  ·subst E;rw[Zg Zo,Zu rfl,Zu Zs];simp
  ·rw[Zg E]
   by_cases ah:i+1<=W/\W<i+1+k.length
   ·rw[Zu ah,Zu (by simp;omega)]
    have:W-i=(W-(i+1))+1:=Zo
    rw[this,ZM]
   ·rw[Zg ah,Zg (by simp;omega)]
def SR(t:K α):∀(n U:Nat) (k:List α),t.kU U n=some k->k.length=n/\∀i,i<n->t.get (U+i)=k[i]? :=by
 intro n
 induction n with
 |zero=>intro U k a;simp[kU]at a;subst a;simp
 |succ n al=>
  intro U k a
  simp only[kU]at a
  cases bU:t.get U with
  |none=>simp[bU]at a
  |some F=>
   simp only[bU]at a
   cases V:kU t (U+1) n with
   |none=>simp[V]at a
   |some r=>
    simp only[V,Zf]at a
    subst a
    obtain⟨I,J⟩:=al _ _ V
    refine⟨by simp[I],λi aN=> ?_⟩
    cases i with
    |zero=>simpa using bU
    |succ i=>rw[show U+(i+1)=U+1+i by omega,J i Zo];simp
end K
def WL(k:List D):∀(c:K D) (U:Nat),dN c U k=K.ofList k U c:=by
 induction k with
 |nil=>intro c U;rfl
 |cons v k al=>intro c U;simp only[dN,K.ofList,hk];exact al _ _
structure mR where
 cH:Nat
 ec:Nat
 room:Nat
 deriving Inhabited
abbrev c9:=Nat->mR
def nr(S:c9):Fn->Fn
 | .yield k=> .yield (S k).cH
 |f=>f
def f2(s:List Nat):ByteArray:=⟨(s.map UInt8.ofNat).toArray⟩
mutual
def aQ(S:c9):D->Value
 | .bool b=> .bool b
 | .int q n=> .int q n
 | .str s=> .string (f2 s)
 | .ptr b U=> .pointer (some ⟨(S b).cH,(S b).ec+U,none⟩)
 | .cx=> .pointer none
 | .slice b U len cap=> .slice (some ⟨(S b).cH,(S b).ec+U,none⟩) len cap
 | .fl b U len bl=> .slice (some ⟨(S b).cH,(S b).ec+U,none⟩) len (((S b).room-U)/bl)
 | .aV=> .slice none 0 0
 | .map m=> .map (some (S m).cH)
 | .mi=> .map none
 | .func fn F b=> .func (nr S fn) (b2 S F).toArray (b2 S b).toArray
 | .nilFunc=> .nilFunc
 | .iface t v=> .iface t (aQ S v)
 | .nilIface=> .nilIface
 | .agg cs=> .agg (b2 S cs).toArray
 | .tuple a8=> .tuple (b2 S a8).toArray
def b2(S:c9):List D->List Value
 |[]=>[]
 |v::k=>aQ S v::b2 S k
end
def ql(S:c9)(k:List D):b2 S k=k.map (aQ S):=by
 induction k with
 |nil=>rfl
 |cons v k al=>simp[b2,al]
def N2(ad:Nat->Prop):Fn->Prop
 | .yield k=>ad k
 | .func _=>True
 |_=>False
mutual
def ck(ad:Nat->Prop):D->Prop
 | .bool _=>True
 | .int _ _=>True
 | .str s=>∀x∈s,x<256
 | .ptr b _=>ad b
 | .cx=>True
 | .slice b _ _ _=>ad b
 | .fl b _ _ _=>ad b
 | .aV=>True
 | .map m=>ad m
 | .mi=>True
 | .func fn F b=>N2 ad fn/\ep ad F/\ep ad b
 | .nilFunc=>True
 | .iface _ v=>ck ad v
 | .nilIface=>True
 | .agg cs=>ep ad cs
 | .tuple a8=>ep ad a8
def ep(ad:Nat->Prop):List D->Prop
 |[]=>True
 |v::k=>ck ad v/\ep ad k
end
def vN(ad:Nat->Prop)(k:List D):ep ad k↔∀v∈k,ck ad v:=by
 induction k with
 |nil=>simp[ep]
 |cons v k al=>simp[ep,al]
mutual
def R1{S iF:c9}{ad:Nat->Prop}(a:∀b,ad b->S b=iF b):∀v,ck ad v->aQ S v=aQ iF v
 | .bool _,_=>rfl
 | .int _ _,_=>rfl
 | .str _,_=>rfl
 | .ptr b U,g=>by simp only[aQ,a b g]
 | .cx,_=>rfl
 | .slice b U k c,g=>by simp only[aQ,a b g]
 | .fl b U k c,g=>by simp only[aQ,a b g]
 | .aV,_=>rfl
 | .map m,g=>by simp only[aQ,a m g]
 | .mi,_=>rfl
 | .func fn F b,g=>by
   obtain⟨b3,b7,cS⟩:=g
   have E:nr S fn=nr iF fn:=by
    cases fn<;>simp only[nr]
    rw[a _ b3]
   simp only[aQ,E,GM a F b7,GM a b cS]
 | .nilFunc,_=>rfl
 | .iface t v,g=>by simp only[aQ,R1 a v g]
 | .nilIface,_=>rfl
 | .agg cs,g=>by simp only[aQ,GM a cs g]
 | .tuple a8,g=>by simp only[aQ,GM a a8 g]
def GM{S iF:c9}{ad:Nat->Prop}(a:∀b,ad b->S b=iF b):∀k,ep ad k->b2 S k=b2 iF k
 |[],_=>rfl
 |v::k,g=>by simp only[b2,R1 a v g.1,GM a k g.2]
end
mutual
def pz{ad dp:Nat->Prop}(a:∀b,ad b->dp b):∀v,ck ad v->ck dp v
 | .bool _,_=>trivial
 | .int _ _,_=>trivial
 | .str _,g=>g
 | .ptr b _,g=>a b g
 | .cx,_=>trivial
 | .slice b _ _ _,g=>a b g
 | .fl b _ _ _,g=>a b g
 | .aV,_=>trivial
 | .map m,g=>a m g
 | .mi,_=>trivial
 | .func fn F b,g=>⟨by cases fn<;>first|exact a _ g.1|exact g.1,r8 a F g.2.1,r8 a b g.2.2⟩
 | .nilFunc,_=>trivial
 | .iface _ v,g=>pz a v g
 | .nilIface,_=>trivial
 | .agg cs,g=>r8 a cs g
 | .tuple a8,g=>r8 a a8 g
def r8{ad dp:Nat->Prop}(a:∀b,ad b->dp b):∀k,ep ad k->ep dp k
 |[],_=>trivial
 |v::k,g=>⟨pz a v g.1,r8 a k g.2⟩
end
end Go.bd

namespace Go.bd
open Go.RowKit (Below)
structure jw(S:c9)(ad:Nat->Prop)(n ao:Nat)(H:K D)(tmps:Array Value):Prop where
 size:tmps.size=n
 val:∀t v,bit ao t=true->H.get t=some v->tmps[t]? =some (aQ S v)/\ck ad v
def Re(C:aL)(fn ao:Nat):Prop:=∃f,C.P.funcs[fn]? =some f/\Bs ao f.results.toList=true
def H5(c:Code):Prop:=c= .ret\/∃id,c= .exit id
def D3(S:c9):QR->Target
 | .fn fn fM=> .fn (nr S fn) (b2 S fM).toArray
 | .collected r=> .collected (S r).cH
def l2(S:c9)(d:hI):Deferred:=⟨D3 S d.target,(b2 S d.args).toArray⟩
def aq1(ad:Nat->Prop):QR->Prop
 | .fn fn fM=>N2 ad fn/\ep ad fM
 | .collected r=>ad r
def x5(ad:Nat->Prop)(d:hI):Prop:=aq1 ad d.target/\ep ad d.args
def Gl(st:ox)(n:Nat)(pl:mR)(bl b0 aN:Nat):Prop:=match st with
 | .own=>b0=aN
 | .marked=>b0=aN\/bl<=b0
 | .grow _=>(b0=aN\/bl<=b0)/\n<=pl.room/\pl.ec+pl.room<=bl
 | .ki=>True/\n<=pl.room/\pl.ec+pl.room<=bl
def Gl.free{st:ox}{n:Nat}{pl:mR}{bl b0 aN:Nat}(a:Gl st n pl bl b0 aN)(kK:st≠ .ki):aN<=b0\/bl<=b0:=by
 cases st with
 |own=>exact .inl (Y9 a.symm)
 |marked=>exact a.imp (λE=>Y9 E.symm) id
 |grow _=>exact a.1.imp (λE=>Y9 E.symm) id
 |ki=>exact absurd rfl kK
def l7(S:c9)(E:D×D×Nat):MapEntry:=⟨aQ S E.1,aQ S E.2.1,E.2.2⟩
def kk(C:aL)(S:c9)(ad:Nat->Prop)(U:ag)(pl:mR)(w:World):Prop:=match U with
 | .cells c n st=>∃cm ty b0 aN,w.heap[pl.cH]? =some (.cells cm ty (b0,aN))/\Gl st n pl cm.size b0 aN/\pl.ec+n<=cm.size/\
    ∀i v,c.get i=some v->cm[pl.ec+i]? =some (aQ S v)/\ck ad v
 | .map bH eR=>∃cm,w.heap[pl.cH]? =some (.map cm eR)/\cm.toList=bH.map (l7 S)/\∀E∈bH,ck ad E.1/\ck ad E.2.1
 | .look bH=>∃(cm:Array MapEntry) (eR:Nat) (j5:List (D×D×Nat)),w.heap[pl.cH]? =some (.map cm eR)/\cm.toList=j5.map (l7 S)/\(j5.map λE=>(E.1,E.2.1)).Perm bH/\∀E∈j5,ck ad E.1/\ck ad E.2.1
 | .pb s pos=>pl.ec=0/\w.heap[pl.cH]? =some (.stringIter (f2 s) pos)/\∀x∈s,x<256
 | .Bk m wY seen st=>pl.ec=0/\w.heap[pl.cH]? =some (.mapIter (m.map λb=>(S b).cH) wY seen.toArray st)/\∀b,m=some b->ad b
 | .Im m wY n cp st nV=>pl.ec=0/\ad m/\∃seen:List Nat,w.heap[pl.cH]? =some (.mapIter (some (S m).cH) wY seen.toArray st)/\(cp.filter λb=> !seen.contains b).length<=n/\∀b,nV=some b->afR seen=some b
 | .loop state pending fn n ao H params assign body bc=>∃tmps,w.heap[pl.cH]? =some (.loop ⟨state,pending,fn,tmps,params.toArray,assign,body,(S bc).cH⟩)/\jw S ad n ao H tmps/\ad bc/\
    l4 C ao assign=true/\l4 C ao body=true/\(∀c,pending=some c->H5 c)/\Re C fn ao
 | .deferred qk=>w.heap[pl.cH]? =some (.deferred (qk.map λk=>k.map (l2 S)))/\∀k,qk=some k->∀d∈k,x5 ad d
def Rv(U o':ag)(b dO:Nat):Prop:=
 (∃c n f5 aU,U= .cells c n .ki/\o'= .cells f5 aU .ki)\/
 (∃c n k f5 aU,U= .cells c n (.grow k)/\o'= .cells f5 aU .ki/\dO∈k/\aU<=n)\/
 (∃c n k f5 aU,o'= .cells f5 aU (.grow k)/\U= .cells c n .ki/\b∈k/\n<=aU)
def xG(C:aL)(ad:Nat->Prop)(U:ag):Prop:=(∀c n k,U= .cells c n (.grow k)->∀x∈k,ad x/\C.a2<=x)/\∀c n st,U= .cells c n st->∀i v,c.get i=some v->i<n
structure dq(C:aL)(S:c9)(ad:Nat->Prop)(h:K ag)(j bh:Nat)(w:World):Prop where
 a2:C.a2<=j
 lt:∀b,ad b->b<j
 wN:∀b U,Y C h b=some U->b<j
 obj:∀b U,Y C h b=some U->ad b->kk C S ad U (S b) w
 sep:∀b dO U o',Y C h b=some U->Y C h dO=some o'->ad b->ad dO->b≠dO->C.a2<=b->(S b).cH=(S dO).cH->Rv U o' b dO/\(S b).ec=(S dO).ec
 base:∀b U,C.a2<=b->Y C h b=some U->ad b->bh<=(S b).cH
 fv:∀b U,Y C h b=some U->ad b->xG C ad U
def jv(S:c9)(ad:Nat->Prop)(av:Operand->Value)(ev:Operand->Option D)(k:List Operand):Prop:=
 ∀x∈k,∀v,ev x=some v->av x=aQ S v/\ck ad v
section
variable{C:aL}{S:c9}{ad:Nat->Prop}{h:K ag}{j bh:Nat}{w:World}
def RR(s:ByteArray):f2 (s.data.toList.map (·.toNat))=s:=by
 unfold f2
 rw[Yy]
 have:(UInt8.ofNat∘λx:UInt8=>x.toNat)=id:=by funext x;simp
 rw[this]
 simp
def axf{α eD:Type}(f:α->Option eD):∀(k:List α) (r:List eD),C7 f k=some r->r.length=k.length/\∀(i:Nat) (F:α),k[i]? =some F->∃b,r[i]? =some b/\f F=some b:=by
 intro k
 induction k with
 |nil=>intro r a;simp[C7]at a;subst a;simp
 |cons F k al=>
  intro r a
  simp only[C7]at a
  cases ch:f F with
  |none=>simp[ch]at a
  |some b=>
   simp only[ch]at a
   cases V:C7 f k with
   |none=>simp[V]at a
   |some gb=>
    simp only[V,Zf]at a
    subst a
    obtain⟨I,J⟩:=al _ V
    refine⟨by simp[I],λi x af=> ?_⟩
    cases i with
    |zero=>simp at af;subst af;exact⟨b,Zs,ch⟩
    |succ i=>simp at af;obtain⟨e,z,avm⟩:=J i x af;exact⟨e,by simpa using z,avm⟩
def axY(S:c9)(ad:Nat->Prop):∀(n:Nat) (v:Value) (F:D),De n v=some F->v=aQ S F/\ck ad F:=by
 intro n
 induction n with
 |zero=>intro v F a;simp[De]at a
 |succ n al=>
  have list:∀(k:List Value) (r:List D),C7 (De n) k=some r->k=b2 S r/\ep ad r:=by
   intro k r a
   obtain⟨I,J⟩:=axf _ k r a
   constructor
   ·rw[ql]
    apply YL
    intro i
    rw[Zy]
    cases af:k[i]? with
    |none=>
     have:k.length<=i:=by simpa using af
     rw[ZQ Zo];rfl
    |some x=>
     obtain⟨b,aj,jB⟩:=J i x af
     rw[aj,(al _ _ jB).1];rfl
   ·rw[vN]
    intro v bD
    obtain⟨i,aN⟩:=Z1.1 bD
    have c2:i<k.length:=by
     have:=(Zc.1 aN).1;omega
    obtain⟨b,aj,jB⟩:=J i k[i] (Ze c2)
    rw[aN]at aj;simp at aj;subst aj
    exact(al _ _ jB).2
  intro v F a
  unfold De at a
  split at a<;>(try(simp at a;subst a;simp[aQ,ck,nr,b2,N2,ep];done))
  ·simp at a;subst a
   refine⟨by simp only[aQ];rw[RR], ?_⟩
   simp only[ck]
   intro x af
   obtain⟨e,_,rfl⟩:=ZE.1 af
   exact e.toNat_lt
  ·rename_i t v
   split at a
   ·rename_i fV aC
    simp at a;subst a
    obtain⟨E,g⟩:=al _ _ aC
    exact⟨by simp only[aQ,E],g⟩
   ·simp at a
  ·rename_i cs
   split at a
   ·rename_i k az
    simp at a;subst a
    obtain⟨E,g⟩:=list _ _ az
    exact⟨by simp only[aQ];rw[<-E],g⟩
   ·simp at a
  ·rename_i cs
   split at a
   ·rename_i k az
    simp at a;subst a
    obtain⟨E,g⟩:=list _ _ az
    exact⟨by simp only[aQ];rw[<-E],g⟩
   ·simp at a
  ·simp at a
def PX{v:Value}{F:D}(a:Fw v=some F):v=aQ S F/\ck ad F:=axY S ad _ _ _ a
def rZ(b U i:Nat):(⟨b,U,none⟩:Addr).add i=⟨b,U+i,none⟩:=by unfold Addr.add;split<;>simp_all
def an8(V:dq C S ad h j bh w){b:Nat}(aj:ad b){c:K D}(a:cellsOf C h b=some c):
 ∃cm ty b0 aN,w.heap[(S b).cH]? =some (.cells cm ty (b0,aN))/\∀i v,c.get i=some v->cm[(S b).ec+i]? =some (aQ S v)/\ck ad v:=by
 unfold cellsOf at a
 split at a
 ·rename_i f5 n st bj
  simp at a;subst a
  obtain⟨cm,ty,b0,aN,I,_,_,aB⟩:=V.obj b _ bj aj
  exact⟨cm,ty,b0,aN,I,aB⟩
 ·simp at a
def abB(V:dq C S ad h j bh w){b:Nat}(aj:ad b){c:K D}(a:cellsOf C h b=some c){U:Nat}{v:D}(bU:c.get U=some v):
 w.cell? ⟨(S b).cH,(S b).ec+U,none⟩=some (aQ S v)/\ck ad v:=by
 obtain⟨cm,ty,b0,aN,I,aB⟩:=an8 V aj a
 obtain⟨bk,b6⟩:=aB U v bU
 exact⟨by simp[World.cell?,I,bk],b6⟩
def No(V:dq C S ad h j bh w){b:Nat}(aj:ad b){c:K D}(a:cellsOf C h b=some c){U n:Nat}{k:List D}(bU:c.kU U n=some k):
 (loadCells ⟨(S b).cH,(S b).ec+U,none⟩ n).run C.P w= .ok (b2 S k).toArray w/\ep ad k:=by
 obtain⟨I,J⟩:=K.SR _ _ _ _ bU
 have key:∀i v,k[i]? =some v->w.cell? ⟨(S b).cH,(S b).ec+U+i,none⟩=some (aQ S v)/\ck ad v:=by
  intro i v aN
  have c2:i<n:=zq (Zc.1 aN).1
  have:=abB V aj a (U:=U+i) (v:=v) (by rw[J i c2,aN])
  rwa[<-ZJ]at this
 constructor
 ·have az:=run_loadCells_list (P:=C.P) w ⟨(S b).cH,(S b).ec+U,none⟩ (b2 S k) (λW v bD=>by
   rw[rZ]
   rw[ql,Zy]at bD
   cases af:k[W]? with
   |none=>simp[af]at bD
   |some F=>simp[af]at bD;subst bD;exact(key W F af).1)
  have fI:(b2 S k).length=n:=by rw[ql,Zn,I]
  rw[fI]at az
  exact az
 ·rw[vN]
  intro v bD
  obtain⟨i,aN⟩:=Z1.1 bD
  exact(key i v aN).2
def aA4{t n:Nat}(a:js C t=some n):∃i,C.P.info? t=some i/\i.size=n:=by
 unfold js at a
 cases aN:C.P.info? t with
 |none=>simp[aN]at a
 |some i=>simp[aN]at a;exact⟨i,rfl,a⟩
def p3{t n:Nat}(a:js C t=some n)(w:World):(sizeOf t).run C.P w= .ok n w:=by
 obtain⟨i,aN,rfl⟩:=aA4 a
 simp[sizeOf,typeInfo,aN]
def FJ{t:Nat}{bz:D}(a:ub C t=some bz)(S:c9)(ad:Nat->Prop)(w:World):(zeroValue t).run C.P w= .ok (aQ S bz) w/\ck ad bz:=by
 unfold ub at a
 cases aN:C.P.info? t with
 |none=>simp[aN]at a
 |some i=>
  simp only[aN]at a
  cases cr:i.zero with
  |none=>simp[cr]at a
  |some v=>
   simp only[cr]at a
   obtain⟨E,g⟩:=PX (S:=S) (ad:=ad) a
   exact⟨by simp[zeroValue,typeInfo,aN,cr,E],g⟩
def Qm{t:Nat}{b:Bool}(a:E8 C t=some b)(w:World):(isAgg t).run C.P w= .ok b w:=by
 unfold E8 at a
 cases bb:C.P.underlying t with
 |none=>simp[bb]at a
 |some d=>
  simp only[bb]at a
  cases d<;>simp at a<;>subst a<;>simp[isAgg,run_underlying bb]
end
end Go.bd

namespace Go.bd
open Go.RowKit (Below)
section
variable{C:aL}{S:c9}{ad:Nat->Prop}{h:K ag}{j bh:Nat}{w:World}
def nY{ek:List (Nat×Nat)}{x:Operand}{ur:kC}(a:ng ek x=some ur)(aq:List (Nat×D))(H:K D):lm ur aq H=ji ek aq H x:=by
 cases x with
 |tmp t=>
  simp only[ng]at a
  cases aC:eo ek t with
  |none=>simp[aC]at a;subst a;simp[lm,ji,aC]
  |some W=>simp[aC]at a;subst a;simp[lm,ji,aC]
 |const v=>
  simp only[ng]at a
  cases bD:Fw v with
  |none=>simp[bD]at a
  |some F=>simp[bD]at a;subst a;simp[lm,ji,bD]
 |global g=>simp[ng]at a;subst a;rfl
 |func f=>simp[ng]at a;subst a;rfl
def apN{ek:List (Nat×Nat)}(aq:List (Nat×D))(H:K D):∀{k:List Operand}{cs:List kC}{a8:List D},I2 ek k=some cs->Ch aq H cs=some a8->
 a8.length=k.length/\∀(i:Nat) x,k[i]? =some x->∃v,a8[i]? =some v/\ji ek aq H x=some v:=by
 intro k
 induction k with
 |nil=>intro cs a8 I J;simp[I2]at I;subst I;simp[Ch]at J;subst J;simp
 |cons x k al=>
  intro cs a8 I J
  simp only[I2]at I
  cases af:ng ek x with
  |none=>simp[af]at I
  |some ur=>
   cases az:I2 ek k with
   |none=>simp[af,az]at I
   |some s9=>
    simp[af,az]at I;subst I
    simp only[Ch]at J
    cases bD:lm ur aq H with
    |none=>simp[bD]at J
    |some v=>
     cases V:Ch aq H s9 with
     |none=>simp[bD,V]at J
     |some r=>
      simp[bD,V]at J;subst J
      obtain⟨F,b⟩:=al az V
      refine⟨by simp[F],λi e z=> ?_⟩
      cases i with
      |zero=>simp at z;subst z;exact⟨v,Zs,by rw[<-nY af];exact bD⟩
      |succ i=>simp at z;simpa using b i e z
def apL{av:Operand->Option D}:∀{k:List Operand}{a8:List D},qo av k=some a8->
 a8.length=k.length/\∀(i:Nat) x,k[i]? =some x->∃v,a8[i]? =some v/\av x=some v:=by
 intro k
 induction k with
 |nil=>intro a8 a;simp[qo]at a;subst a;simp
 |cons x k al=>
  intro a8 a
  simp only[qo]at a
  cases af:av x with
  |none=>simp[af]at a
  |some v=>
   cases az:qo av k with
   |none=>simp[af,az]at a
   |some r=>
    simp[af,az]at a;subst a
    obtain⟨F,b⟩:=al az
    refine⟨by simp[F],λi e z=> ?_⟩
    cases i with
    |zero=>simp at z;subst z;exact⟨v,Zs,af⟩
    |succ i=>simp at z;simpa using b i e z
def agf{av:Operand->Value}{ev:Operand->Option D}{k:List Operand}{a8:List D}(cC:jv S ad av ev k)(I:a8.length=k.length)
 (J:∀(i:Nat) x,k[i]? =some x->∃v,a8[i]? =some v/\ev x=some v):k.map av=b2 S a8/\ep ad a8:=by
 constructor
 ·rw[ql]
  apply YL
  intro i
  rw[Zy,Zy]
  cases af:k[i]? with
  |none=>
   have:k.length<=i:=by simpa using af
   rw[ZQ Zo];rfl
  |some x=>
   obtain⟨v,bD,bs⟩:=J i x af
   rw[bD]
   simp[(cC x (Zj af) v bs).1]
 ·rw[vN]
  intro v bD
  obtain⟨i,aN⟩:=Z1.1 bD
  have c2:i<k.length:=zq (Zc.1 aN).1
  obtain⟨ac,bb,bs⟩:=J i k[i] (Ze c2)
  rw[aN]at bb;simp at bb;subst bb
  exact(cC _ (List.getElem_mem c2) v bs).2
def xL{av:Operand->Value}{ev:Operand->Option D}{F:Array Operand}{a8:List D}(cC:jv S ad av ev F.toList)(a:qo ev F.toList=some a8):
 F.map av=(b2 S a8).toArray/\ep ad a8:=by
 obtain⟨I,J⟩:=apL a
 obtain⟨am,aB⟩:=agf cC I J
 refine⟨?_,aB⟩
 apply YZ
 simp[am]
def aio(q:IntKind)(n:Int):p9 q n=q.wrap n:=by
 cases q<;>simp only[p9]<;>try rfl
 simp only[fA,IntKind.wrap,IntKind.bits,IntKind.signed,Zh,Bool.true_and,ge_iff_le]
 have bF:((2:Int)^64)=18446744073709551616:=by decide
 have cn:((2:Int)^(64-1))=9223372036854775808:=by decide
 rw[bF,cn]
 by_cases a:n%18446744073709551616<9223372036854775808
 ·rw[Zu a,Zg (by simpa using a)]
 ·rw[Zg a,Zu (by simpa using a)]
@[simp] def aD4(q:IntKind)(n:Int):lw q n=some (.int q (q.wrap n)):=by simp[lw,aio]
@[simp] def afr(q:IntKind)(n:Int):qD q n=some (.int q n):=by simp[qD]
@[simp] def xO(b:Bool):oE b=some (.bool b):=by cases b<;>rfl
@[simp] def GK{α:Type _}(c:Bool)(F:Option α)(v:α):bY c none F=some v↔c=false/\F=some v:=by cases c<;>simp
@[simp] def CT(x e:Int):uY x e=decide (x=e):=by
  rw[Yh,Zh]
  cases x<;>cases e
  ·exact⟨λa=>by rw[Zl a],λa=>by cases a;exact za _⟩
  ·exact⟨(λa=>by cases a),(λa=>by cases a)⟩
  ·exact⟨(λa=>by cases a),(λa=>by cases a)⟩
  ·exact⟨λa=>by rw[Zl a],λa=>by cases a;exact za _⟩
@[simp] def tF(x e:Int):Bb x e=decide (x<e):=by
  rw[Yh,Zh]
  cases x with
  |ofNat F=>cases e with
   |ofNat b=>show Nat.blt F b=true↔(F:Int)<(b:Int);simp[Nat.blt];omega
   |negSucc b=>show false=true↔(F:Int)<Int.negSucc b;simp;omega
  |negSucc F=>cases e with
   |ofNat b=>show true=true↔Int.negSucc F<(b:Int);simp;omega
   |negSucc b=>show Nat.blt b F=true↔Int.negSucc F<Int.negSucc b;simp[Nat.blt];omega
@[simp] def afG(q e5:IntKind):mD q e5=decide (q=e5):=by cases q<;>cases e5<;>rfl
@[simp] def anR(F b:Bool):GF F b=(F==b):=by cases F<;>cases b<;>rfl
def amY{op:BinOp}{q:IntKind}{x e:Int}{v:D}(t:TypeId)(a:lZ op q x e=some v)(aF:mg op=false):
 (binOp op t (.int q x) (.int q e)).run C.P w= .ok (aQ S v) w/\ck ad v:=by
 cases op<;>simp[lZ,mg,binOp,Op.intArith,Op.intDiv,Op.intBits,Op.intCmp]at a aF ⊢ <;>
  first
  |(subst a;simp[aQ,ck];done)
  |(obtain⟨I,a⟩:=a;subst a;simp[aQ,ck,I];done)
  |(subst a;exact⟨rfl,trivial⟩)
  |(subst a;refine⟨?_,trivial⟩;simp only[aQ];congr 1;rw[Yh];simp;done)
def am5{op:BinOp}{q e5:IntKind}{x e:Int}{v:D}(t:TypeId)(a:JE op q x e=some v):
 (binOp op t (.int q x) (.int e5 e)).run C.P w= .ok (aQ S v) w/\ck ad v:=by
 unfold JE at a
 simp only[tF,GK,Zb]at a
 obtain⟨I,a⟩:=a
 cases op<;>simp[binOp,Op.shift,I]at a ⊢
 all_goals(subst a;simp[aQ,ck])
def aaW{op:BinOp}{x e v:D}(t:TypeId)(a:bq op x e=some v):
 (binOp op t (aQ S x) (aQ S e)).run C.P w= .ok (aQ S v) w/\ck ad v/\∃q F e5 b,x= .int q F/\e= .int e5 b:=by
 unfold bq at a
 split at a
 ·rename_i q F e5 b
  simp only[aQ]
  by_cases aF:mg op=true
  ·simp only[aF,eX]at a
   obtain⟨bF,cn⟩:=am5 (C:=C) (S:=S) (ad:=ad) (w:=w) (e5:=e5) t a
   exact⟨bF,cn,_,_,_,_,rfl,rfl⟩
  ·have aF:mg op=false:=by simpa using aF
   simp only[aF,j3,afG,e1,Zh]at a
   obtain⟨rfl,a⟩:=a
   obtain⟨bF,cn⟩:=amY (C:=C) (S:=S) (ad:=ad) (w:=w) t a aF
   exact⟨bF,cn,_,_,_,_,rfl,rfl⟩
 ·simp at a
def MP(S:c9)(ad:Nat->Prop)(P:Program)(w:World)(s:Sem Next)(v:D):Prop:=s.run P w= .ok (.value (aQ S v)) w/\ck ad v
def oB{P:Program}{s:Sem Value}{v:D}(a:s.run P w= .ok (aQ S v) w/\ck ad v):MP S ad P w (do pure (.value (<-s))) v:=by
 refine⟨?_,a.2⟩
 simp[a.1]
def aaY(V:dq C S ad h j bh w){t:TypeId}(a6:E8 C t=some false){F v:D}(aC:ck ad F)(a:aO C h F=some v):
 (Instr.loadAt t (aQ S F)).run C.P w= .ok (aQ S v) w/\ck ad v:=by
 unfold aO at a
 split at a
 ·rename_i b U
  split at a
  ·rename_i c aA
   obtain⟨I,J⟩:=abB V aC aA a
   refine⟨?_,J⟩
   simp[Instr.loadAt,Instr.sureAddr,aQ,loadVar,Qm a6,I]
  ·simp at a
 ·simp at a
def aaZ(V:dq C S ad h j bh w){t:TypeId}{n:Nat}(a6:E8 C t=some true)(aF:js C t=some n){F v:D}(aC:ck ad F)(a:d8 C h n F=some v):
 (Instr.loadAt t (aQ S F)).run C.P w= .ok (aQ S v) w/\ck ad v:=by
 unfold d8 at a
 split at a
 ·rename_i b U
  split at a
  ·rename_i c aA
   split at a
   ·rename_i k az
    simp at a;subst a
    obtain⟨I,J⟩:=No V aC aA az
    refine⟨?_,J⟩
    simp[Instr.loadAt,Instr.sureAddr,aQ,loadVar,Qm a6,p3 aF,I]
   ·simp at a
  ·simp at a
 ·simp at a
def aa0(V:dq C S ad h j bh w){t:TypeId}{F v:D}(aC:ck ad F)(a:l0 C h t F=some v):
 (Instr.loadAt t (aQ S F)).run C.P w= .ok (aQ S v) w/\ck ad v:=by
 unfold l0 at a
 split at a
 ·rename_i s I J;exact aaZ V I J aC a
 ·rename_i I;exact aaY V I aC a
 ·simp at a
def lG{F b:Nat}(a:Nat.blt F b=true):F<b:=by simp[Nat.blt]at a;omega
def jx{F b:Nat}(a:Nat.ble F b=true):F<=b:=by simpa using a
def Fm{v:D}{n:Nat}(a:nD v=some n):∃q,v= .int q (Int.ofNat n):=by
 unfold nD at a
 split at a
 ·rename_i q bz
  split at a
  ·simp at a;subst a;exact⟨q,rfl⟩
  ·simp at a
 ·simp at a
def apW{s:TypeId}{j6:Array Field}{f bz:Nat}{td:Field}(bb:C.P.underlying s=some (.struct j6))(ch:j6.toList[f]? =some td)
 (cr:js C td.type=some bz)(lN:bz≠0){F v:D}(aC:ck ad F)(a:hv td.offset F=some v):
 (Instr.fieldAt s (aQ S F) f).run C.P w= .ok (aQ S v) w/\ck ad v:=by
 unfold hv at a
 split at a
 ·rename_i b U
  simp at a;subst a
  have rk:j6[f]? =some td:=by rw[<-ch];simp
  refine⟨?_,aC⟩
  simp[Instr.fieldAt,run_underlying bb,rk,Instr.sureAddr,aQ,fieldPlace,p3 cr,lN,rZ,ZJ]
 ·simp at a
def avN{t:TypeId}{n bl i:Nat}{eg:TypeId}(bb:C.P.underlying t=some (.array n eg))(cr:js C eg=some bl)
 {F v:D}{q:IntKind}(aC:ck ad F)(a:MD n bl F i=some v):
 (Instr.indexAt t (aQ S F) (.int q (Int.ofNat i))).run C.P w= .ok (aQ S v) w/\ck ad v:=by
 unfold MD at a
 split at a
 ·rename_i b U
  simp only[e1,Zf]at a
  obtain⟨I,rfl⟩:=a
  have c2:i<n:=lG I
  refine⟨?_,aC⟩
  simp[Instr.indexAt,asIntOf,run_underlying bb,Instr.sureAddr,aQ,p3 cr,c2,rZ,ZJ]
 ·simp at a
def avQ{t:TypeId}{bl i:Nat}{eg:TypeId}(bb:C.P.underlying t=some (.slice eg))(cr:js C eg=some bl)
 {F v:D}{q:IntKind}(aC:ck ad F)(a:DA bl F i=some v):
 (Instr.indexAt t (aQ S F) (.int q (Int.ofNat i))).run C.P w= .ok (aQ S v) w/\ck ad v:=by
 unfold DA at a
 split at a
 ·rename_i b U n _
  simp only[e1,Zf]at a
  obtain⟨I,rfl⟩:=a
  have c2:i<n:=lG I
  refine⟨?_,aC⟩
  simp[Instr.indexAt,asIntOf,run_underlying bb,aQ,p3 cr,c2,rZ,ZJ]
 ·rename_i b U n _
  simp only[e1,Zf]at a
  obtain⟨I,rfl⟩:=a
  have c2:i<n:=lG I
  refine⟨?_,aC⟩
  simp[Instr.indexAt,asIntOf,run_underlying bb,aQ,p3 cr,c2,rZ,ZJ]
 ·simp at a
def aCb{F v:D}(aC:ck ad F)(a:rN F=some v):v=F/\(∀oper:Oper,∀av:Operand->Value,∀x,oper.op= .nilCheck x->av x=aQ S F->(execOp av oper).run C.P w= .ok (.value (aQ S v)) w):=by
 unfold rN at a
 split at a
 ·simp at a;subst a
  refine⟨rfl,λoper av x bj af=> ?_⟩
  simp[execOp,bj,af,aQ]
 ·split at a
  ·simp at a;subst a
   refine⟨rfl,λoper av x bj af=> ?_⟩
   simp[execOp,bj,af,aQ,nr]
  ·simp at a;subst a
   refine⟨rfl,λoper av x bj af=> ?_⟩
   simp[execOp,bj,af,aQ,nr]
  ·simp at a
 ·simp at a;subst a
  refine⟨rfl,λoper av x bj af=> ?_⟩
  simp[execOp,bj,af,aQ]
 ·simp at a
def aCa{i:Nat}{F v:D}(aC:ck ad F)(a:pg i F=some v):(Instr.extract (aQ S F) i).run C.P w= .ok (aQ S v) w/\ck ad v:=by
 unfold pg at a
 split at a
 ·rename_i a8
  rw[qG]at a
  refine⟨?_,(vN ad a8).1 aC v (Zj a)⟩
  simp[Instr.extract,aQ,ql,a]
 ·simp at a
def ack{av:Operand->Value}{ev:Operand->Option D}:∀{k:List (Nat×Operand)}{dr:List (Nat×D)},jv S ad av ev (k.map (·.2))->Au ev k=some dr->
 k.map (λx=>(x.1,av x.2))=dr.map (λx=>(x.1,aQ S x.2))/\∀x∈dr,ck ad x.2:=by
 intro k
 induction k with
 |nil=>intro dr _ a;simp[Au]at a;subst a;simp
 |cons F k al=>
  intro dr cC a
  obtain⟨i,x⟩:=F
  simp only[Au]at a
  cases af:ev x with
  |none=>simp[af]at a
  |some v=>
   cases az:Au ev k with
   |none=>simp[af,az]at a
   |some r=>
    simp[af,az]at a;subst a
    obtain⟨F,b⟩:=al (λe z=>cC e (by simp at z ⊢;exact .inr z)) az
    obtain⟨c,d⟩:=cC x Zs v af
    refine⟨by simp[F,c],λe z=> ?_⟩
    cases z with
    |head=>exact d
    |tail _ z=>exact b e z
def vz(S:c9)(v:D):(aQ S v).cells=(b2 S v.cells).toArray:=by
 cases v<;>simp[aQ,Value.cells,D.cells,b2]
def vA{v:D}(a:ck ad v):ep ad v.cells:=by
 cases v with
 |agg cs=>exact a
 |_=>exact⟨a,trivial⟩
def aqc(S:c9):∀(a8:List D) (cs:List D) (off q:Nat),
 ((b2 S a8).zipIdx q).foldl (λ(cs:Array Value) (x:Value×Nat)=>cs.setIfInBounds (off+x.2) x.1) (b2 S cs).toArray=(b2 S (lS cs (off+q) a8)).toArray:=by
 intro a8
 induction a8 with
 |nil=>intro cs off q;rfl
 |cons v a8 al=>
  intro cs off q
  simp only[b2,List.zipIdx_cons,Z7,lS]
  have:(b2 S cs).toArray.setIfInBounds (off+q) (aQ S v)=(b2 S (cs.set (off+q) v)).toArray:=by
   apply YZ
   simp[ql,List.map_set]
  rw[this,al]
  rfl
def aq3{cs:List D}{i:Nat}{v:D}(a:ep ad cs)(bD:ck ad v):ep ad (cs.set i v):=by
 rw[vN]at a ⊢
 intro x af
 rcases List.mem_or_eq_of_mem_set af with cz|cz
 ·exact a x cz
 ·rw[cz];exact bD
def aq4:∀(a8 cs:List D) (U:Nat),ep ad cs->ep ad a8->ep ad (lS cs U a8):=by
 intro a8
 induction a8 with
 |nil=>intro cs U a _;exact a
 |cons v a8 al=>intro cs U a bD;exact al _ _ (aq3 a bD.1) bD.2
def Sv{IH L6:Nat->Option (Nat×Nat)}(ay:∀i x,IH i=some x->L6 i=some x):∀(dr:List (Nat×D)) (cs r:List D),ep ad cs->(∀x∈dr,ck ad x.2)->
 Ck IH cs dr=some r->Instr.fill L6 (b2 S cs).toArray (dr.map λx=>(x.1,aQ S x.2))=some (b2 S r).toArray/\ep ad r:=by
 intro dr
 induction dr with
 |nil=>intro cs r a _ ch;simp[Ck]at ch;subst ch;exact⟨rfl,a⟩
 |cons p dr al=>
  intro cs r a bU ch
  obtain⟨i,v⟩:=p
  simp only[Ck]at ch
  cases oW:IH i with
  |none=>simp[oW]at ch
  |some x=>
   obtain⟨off,size⟩:=x
   simp only[oW,e1,Zp]at ch
   obtain⟨⟨I,J⟩,ch⟩:=ch
   have I:v.cells.length=size:=Zl I
   have J:off+size<=cs.length:=jx J
   have atg:ck ad v:=bU (i,v) Zs
   obtain⟨F,b⟩:=al (lS cs off v.cells) r (aq4 _ _ _ a (vA atg)) (λx af=>bU x (by simp[af])) ch
   refine⟨?_,b⟩
   simp only[ZL,Instr.fill,ay _ _ oW,vz]
   have fI:(b2 S v.cells).length=size:=by rw[ql,Zn,I]
   have we:(b2 S cs).length=cs.length:=by rw[ql,Zn]
   rw[Zg]
   ·rw[<-F]
    congr 1
    have:=aqc S v.cells cs off 0
    simp
    simpa using this
   ·simp[fI,we];omega
def azT{α eD:Type}(P:Program)(w:World)(f:α->Sem eD)(g:α->eD):∀(k:List α),(∀F∈k,(f F).run P w= .ok (g F) w)->(k.mapM f).run P w= .ok (k.map g) w:=by
 intro k
 induction k with
 |nil=>intro _;simp
 |cons F k al=>intro a;simp[Y5,a F Zs,al (λb aj=>a b (by simp[aj]))]
def aA1{j6:List Field}{i:Nat}{x:Nat×Nat}(a:Wp C j6 i=some x):∃f s,j6[i]? =some f/\js C f.type=some s/\x=(f.offset,s):=by
 unfold Wp at a
 rw[qG]at a
 split at a
 ·rename_i f ch
  split at a
  ·rename_i s aF
   simp at a
   exact⟨f,s,ch,aF,a.symm⟩
  ·simp at a
 ·simp at a
def JD{t:TypeId}{cs:List D}{off:Nat}{v:D}(bU:ep ad cs)(a:DX C t cs off=some v):
 (part t (b2 S cs).toArray off).run C.P w= .ok (aQ S v) w/\ck ad v:=by
 unfold DX at a
 split at a
 ·rename_i s I J
  simp at a;subst a
  constructor
  ·simp only[part,Sem.run_bind,Qm I,Result.andThen_ok,ZC,p3 J,Sem.run_pure,aQ,ql]
   congr 2
   apply YZ
   simp[List.map_take,List.map_drop,List.take_drop]
  ·simp only[ck]
   rw[vN]at bU ⊢
   exact λx af=>bU x (Y6 (Y7 af))
 ·rename_i I
  rw[qG]at a
  constructor
  ·simp[part,Qm I,ql,a]
  ·exact(vN ad cs).1 bU v (Zj a)
 ·simp at a
def amX{t:TypeId}{x i v:D}(af:ck ad x)(a:M8 C t x i=some v):(Instr.index t (aQ S x) (aQ S i)).run C.P w= .ok (aQ S v) w/\ck ad v:=by
 unfold M8 at a
 split at a
 ·simp at a
 ·rename_i n aE
  obtain⟨q,rfl⟩:=Fm aE
  split at a
  ·rename_i m eg cs bb
   split at a
   ·rename_i bl cr
    simp only[e1]at a
    obtain⟨I,J⟩:=a
    have c2:=lG I
    obtain⟨am,aB⟩:=JD (S:=S) (w:=w) af J
    refine⟨?_,aB⟩
    simp[Instr.index,asIntOf,aQ,run_underlying bb,c2,p3 cr,am]
   ·simp at a
  ·rename_i s bb
   rw[qG]at a
   split at a
   ·rename_i c aA
    simp at a;subst a
    refine⟨?_,trivial⟩
    have aj:(f2 s)[n]? =some (UInt8.ofNat c):=by
     show(f2 s).data[n]? =_
     simp[f2,aA]
    have c2:c<256:=af c (Zj aA)
    simp[Instr.index,asIntOf,aQ,run_underlying bb,aj,YH c2]
   ·simp at a
  ·simp at a
def am9{op:UnOp}{x v:D}(a:hp op x=some v):(Op.unary op (aQ S x)).run C.P w= .ok (aQ S v) w/\ck ad v:=by
 unfold hp at a
 split at a
 ·rename_i q n
  simp[lZ]at a;subst a
  exact⟨by simp[Op.unary,Op.intArith,aQ],trivial⟩
 ·rename_i q n
  simp[lZ]at a;subst a
  exact⟨rfl,trivial⟩
 ·simp at a;subst a;exact⟨rfl,trivial⟩
 ·simp at a
def ax1:∀{k:List Field},PY C k=true->∀f∈k,∃s,js C f.type=some s:=by
 intro k
 induction k with
 |nil=>intro _ f ch;simp at ch
 |cons F k al=>
  intro a f ch
  simp only[PY,Zp]at a
  cases ch with
  |head=>cases aF:js C F.type with
   |none=>simp[aF]at a
   |some s=>exact⟨s,rfl⟩
  |tail _ ch=>exact al a.2 f ch
def amR{t:TypeId}{dr:List (Nat×D)}{v:D}(bU:∀x∈dr,ck ad x.2)(a:M5 C t dr=some v):
 (Instr.build t ((dr.map λx=>(x.1,aQ S x.2)).toArray)).run C.P w= .ok (aQ S v) w/\ck ad v:=by
 unfold M5 at a
 split at a
 ·simp at a
 ·rename_i bz cr
  obtain⟨HT,HU⟩:=FJ cr S ad w
  split at a
  ·rename_i j6 bb
   simp only[e1]at a
   obtain⟨fY,a⟩:=a
   split at a
   ·rename_i cs ia
    simp at a;subst a
    have bp:(j6.mapM λf=>do pure (f.offset, <-sizeOf f.type):Sem (Array (Nat×Nat))).run C.P w= .ok (j6.toList.map λf=>(f.offset,(js C f.type).getD 0)).toArray w:=by
     rw[Array.mapM_eq_mapM_toList,Sem.run_map,azT C.P w _ (λf:Field=>(f.offset,(js C f.type).getD 0)) _ (λf ch=>by
      obtain⟨s,aF⟩:=ax1 fY f ch
      simp[p3 aF,aF])]
     rfl
    obtain⟨F,b⟩:=Sv (S:=S) (L6:=λi=>((j6.toList.map λf=>(f.offset,(js C f.type).getD 0)).toArray)[i]?) (λi x af=>by
     obtain⟨f,s,I,J,rfl⟩:=aA1 af
     simp at I
     simp[I,J]) dr bz.cells cs (vA HU) bU ia
    refine⟨?_,b⟩
    simp only[Instr.build,Sem.run_bind,HT,Result.andThen_ok,run_underlying bb,bp,vz,F,aQ,Sem.run_pure]
   ·simp at a
  ·rename_i n eg bb
   split at a
   ·rename_i s aF
    split at a
    ·rename_i cs ia
     simp at a;subst a
     obtain⟨F,b⟩:=Sv (S:=S) (L6:=λi=>some (i*s,s)) (λ_ _ a=>a) dr bz.cells cs (vA HU) bU ia
     refine⟨?_,b⟩
     simp[Instr.build,HT,run_underlying bb,p3 aF,vz,F,aQ]
    ·simp at a
   ·simp at a
  ·simp at a
end
end Go.bd

namespace Go.bd
open Go.RowKit (Below)
section
variable{C:aL}{S:c9}{ad:Nat->Prop}{h:K ag}{j bh:Nat}{w:World}
def agD{F b:Nat}(aC:F<256)(aj:b<256)(a:UInt8.ofNat F=UInt8.ofNat b):F=b:=by
 have:=congrArg UInt8.toNat a
 simp at this
 omega
def LW:∀(x e:List Nat),na x e=true↔x=e
 |[],[]=>by simp[na]
 |[],_::_=>by simp[na]
 |_::_,[]=>by simp[na]
 |F::x,b::e=>by
  simp only[na,Zp,LW x e,Yw]
  exact⟨λ⟨a,E⟩=>⟨Zl a,E⟩,λ⟨a,E⟩=>⟨by rw[a];exact za _,E⟩⟩
def axd:∀{x e:List Nat},(∀F∈x,F<256)->(∀F∈e,F<256)->x.map UInt8.ofNat=e.map UInt8.ofNat->x=e:=by
 intro x
 induction x with
 |nil=>intro e _ _ a;cases e with
  |nil=>rfl
  |cons b e=>simp at a
 |cons F x al=>
  intro e af z a
  cases e with
  |nil=>simp at a
  |cons b e=>
   simp only[ZL,Yw]at a
   rw[agD (af F Zs) (z b Zs) a.1,al (λc aA=>af c (by simp[aA])) (λc aA=>z c (by simp[aA])) a.2]
def Nj(s:List Nat):(f2 s).toList=s.map UInt8.ofNat:=by
 rw[ByteArray.toList_eq];simp[f2]
def Wo{x e:List Nat}(af:∀F∈x,F<256)(z:∀F∈e,F<256):((f2 x).toList==(f2 e).toList)=na x e:=by
 rw[Yh,LW,Y0,Nj,Nj]
 exact⟨axd af z,λa=>by rw[a]⟩
def ahO:∀{x e:List Nat},(∀F∈x,F<256)->(∀F∈e,F<256)->Op.bytesLess (x.map UInt8.ofNat) (e.map UInt8.ofNat)=Da x e
 |[],[],_,_=>rfl
 |[],_::_,_,_=>rfl
 |_::_,[],_,_=>rfl
 |F::x,b::e,af,z=>by
  have aC:=af F Zs
  have aj:=z b Zs
  have al:=ahO (λc aA=>af c (Zt _ aA)) (λc aA=>z c (Zt _ aA))
  simp only[ZL,Op.bytesLess,Da,al]
  have bF:decide (UInt8.ofNat F<UInt8.ofNat b)=Nat.blt F b:=by
   rw[Yh,Zh,UInt8.lt_iff_toNat_lt]
   simp[Nat.blt,YH aC,YH aj];omega
  have cn:(UInt8.ofNat F==UInt8.ofNat b)=Nat.beq F b:=by
   rw[Yh,Y0]
   exact⟨λa=>by rw[agD aC aj a];exact za _,λa=>by rw[Zl a]⟩
  rw[bF,cn]
def Qd(V:dq C S ad h j bh w){b U:Nat}(aj:ad b)(a:C4 C h b U=true):
 ∃c n st cm ty b0 aN,Y C h b=some (.cells c n st)/\U<n/\w.heap[(S b).cH]? =some (.cells cm ty (b0,aN))/\Gl st n (S b) cm.size b0 aN/\(S b).ec+n<=cm.size/\st≠ .ki:=by
 unfold C4 at a
 split at a
 ·simp at a
 ·rename_i c n st kK bj
  obtain⟨cm,ty,b0,aN,I,J,am,_⟩:=V.obj b _ bj aj
  exact⟨c,n,st,cm,ty,b0,aN,bj,lG (by simpa using a),I,J,am,λE=>(by subst E;first|exact kK _ bj|exact kK _ rfl|exact kK rfl|exact kK bj|simp_all)⟩
 ·simp at a
def agO{b U:Nat}(a:IE C h b U=true):C4 C h b U=true/\C.a2<=b/\∃c n,Y C h b=some (.cells c n .own):=by
 unfold IE at a
 unfold C4
 split at a
 ·rename_i c n bj
  simp only[bj,Zp]at a ⊢
  exact⟨a.2,jx a.1,c,n,rfl⟩
 ·simp at a
def V5{r:Nat}{cm:Array Value}{ty:TypeId}{f:Nat×Nat}(a:w.heap[r]? =some (.cells cm ty f)):w.shape? r=some (ty,cm.size):=by
 simp[World.shape?,a]
def ahx{P:Program}{p ah:Nat}{x e:Nat}{ba cj:Array Value}{t1 dQ:TypeId}{ei I c4 J:Nat}(c8:p≠ah)
 (bF:w.heap[p]? =some (.cells ba t1 (ei,I)))(cn:w.heap[ah]? =some (.cells cj dQ (c4,J)))(eM:I<=ei)(ju:x<ba.size)(h0:e<cj.size)(eV:J<=c4\/cj.size<=c4):
 (sameAddr ⟨p,x,none⟩ ⟨ah,e,none⟩).run P w= .ok false w/\(sameAddr ⟨ah,e,none⟩ ⟨p,x,none⟩).run P w= .ok false w:=by
 have b3:w.frozen? ⟨p,x,none⟩=false:=by simp[World.frozen?,bF];omega
 have b7:w.frozen? ⟨ah,e,none⟩=false:=by simp[World.frozen?,cn];omega
 have cS:w.frozen? ⟨p,ba.size,none⟩=false:=by simp[World.frozen?,bF];omega
 have jr:=V5 bF
 have k9:=V5 cn
 have f1:ba.size≠0:=Zo
 have fD:cj.size≠0:=Zo
 have atN:ah≠p:=λE=>c8 E.symm
 constructor
 ·simp[sameAddr,c8,b3,b7,cS,noView,viewAt,jr,k9,mayBeOne,stringish,fD]
 ·simp[sameAddr,atN,b3,b7,cS,noView,viewAt,jr,k9,mayBeOne,stringish,f1,fD]
def ayW(V:dq C S ad h j bh w){b U dO o':Nat}{r:Bool}(aj:ad b)(jB:ad dO)(a:ptrEq C h b U dO o'=some r):
 (sameAddr ⟨(S b).cH,(S b).ec+U,none⟩ ⟨(S dO).cH,(S dO).ec+o',none⟩).run C.P w= .ok r w:=by
 unfold ptrEq at a
 rw[hK]at a
 split at a
 ·rename_i E
  subst E
  simp at a;subst a
  simp only[sameAddr,Ym,ZC,Sem.run_pure]
  congr 1
  rw[Yh,Y0]
  constructor
  ·intro a;simp at a;rw[a];exact za _
  ·intro a;rw[Zl a]
 ·rename_i c8
  simp only[e1,zi,Zp,Zf]at a
  obtain⟨a,rfl⟩:=a
  rcases a with ⟨I,J⟩|⟨I,J⟩
  ·obtain⟨am,aB,c,n,bk⟩:=agO I
   obtain⟨db,aG,Wk,ba,t1,ei,xb,bF,ju,QP,f1,bR,_⟩:=Qd V aj am
   obtain⟨dx,a1,w0,cj,dQ,c4,I5,cn,h0,QQ,fD,cq,VH⟩:=Qd V jB J
   have dm:Wk= .own:=by rw[bk]at bF;cases bF;rfl
   subst dm
   have Tx:(S b).cH≠(S dO).cH:=by
    intro E
    rcases(V.sep b dO _ _ bF cn aj jB c8 aB E).1 with ⟨_,_,_,_,ah,_⟩|⟨_,_,_,_,_,ah,_⟩|⟨_,_,_,_,_,_,ah,_⟩<;>cases ah
   exact(ahx Tx QP QQ (Y9 f1.symm) Zo Zo (fD.free VH)).1
  ·obtain⟨am,aB,c,n,bk⟩:=agO I
   obtain⟨db,aG,Wk,ba,t1,ei,xb,bF,ju,QP,f1,bR,_⟩:=Qd V jB am
   obtain⟨dx,a1,w0,cj,dQ,c4,I5,cn,h0,QQ,fD,cq,VH⟩:=Qd V aj J
   have dm:Wk= .own:=by rw[bk]at bF;cases bF;rfl
   subst dm
   have Tx:(S dO).cH≠(S b).cH:=by
    intro E
    rcases(V.sep dO b _ _ bF cn jB aj (λah=>c8 ah.symm) aB E).1 with ⟨_,_,_,_,ah,_⟩|⟨_,_,_,_,_,ah,_⟩|⟨_,_,_,_,_,_,ah,_⟩<;>cases ah
   exact(ahx Tx QP QQ (Y9 f1.symm) Zo Zo (fD.free VH)).2
def amU{eq:Nat->D->D->Option Bool}{d:Nat}(e2:∀t x e r,ck ad x->ck ad e->eq t x e=some r->(Op.equalIn d t (aQ S x) (aQ S e)).run C.P w= .ok r w):
 ∀(jR:List Field) (cl oo:List D) (r:Bool),ep ad cl->ep ad oo->DW C eq jR cl oo=some r->(Op.eqFields d (b2 S cl).toArray (b2 S oo).toArray jR).run C.P w= .ok r w:=by
 intro jR
 induction jR with
 |nil=>intro cl oo r _ _ a;simp[DW]at a;subst a;simp[Op.eqFields]
 |cons f jR al=>
  intro cl oo r af z a
  simp only[DW,GK,beq_eq_false_iff_ne]at a
  obtain⟨aE,a⟩:=a
  split at a
  ·rename_i F b aC aj
   obtain⟨ba,cj⟩:=JD (S:=S) (w:=w) af aC
   obtain⟨bQ,cf⟩:=JD (S:=S) (w:=w) z aj
   split at a
   ·rename_i E
    simp only[Op.eqFields,aE,ne_eq,ZG,ZC,Sem.run_bind,ba,bQ,e2 _ _ _ _ cj cf E,Result.andThen_ok,Yk,Zw,ZA]
    exact al cl oo r af z a
   ·rename_i E
    simp at a;subst a
    simp only[Op.eqFields,aE,ne_eq,ZG,ZC,Sem.run_bind,ba,bQ,e2 _ _ _ _ cj cf E,Result.andThen_ok,Yj,Sem.run_pure]
   ·simp at a
  ·simp at a
def RB(V:dq C S ad h j bh w):∀(d lI:Nat) (t:Nat) (x e:D) (r:Bool),d<=lI->ck ad x->ck ad e->kl C h d t x e=some r->
 (Op.equalIn lI t (aQ S x) (aQ S e)).run C.P w= .ok r w:=by
 intro d
 induction d with
 |zero=>intro lI t x e r _ _ _ a;simp[kl]at a
 |succ d al=>
  intro lI t x e r aH fE vQ a
  obtain⟨lI,rfl⟩:∃E,lI=E+1:=⟨lI-1,Zo⟩
  unfold kl at a
  split at a
  ·rename_i bb;simp at a;subst a;simp[Op.equalIn,run_underlying bb,aQ]
  ·rename_i bb;simp at a;obtain⟨rfl,rfl⟩:=a;simp[Op.equalIn,run_underlying bb,aQ];rfl
  ·rename_i F b bb
   simp at a;subst a
   rw[aQ,aQ,run_equalIn_string w lI t _ _ bb,Wo fE vQ]
  ·rename_i bb;simp at a;subst a;simp[Op.equalIn,run_underlying bb,aQ]
  ·rename_i bb;simp at a;subst a;simp[Op.equalIn,run_underlying bb,aQ]
  ·rename_i bb;simp at a;subst a;simp[Op.equalIn,run_underlying bb,aQ]
  ·rename_i E b U dO o' bb
   split at a
   ·rename_i s aF
    rw[hK]at a
    split at a
    ·simp at a
    ·rename_i Pe
     have:=ayW V fE vQ a
     simp[Op.equalIn,run_underlying bb,aQ,p3 aF,Pe,this]
   ·simp at a
  ·rename_i bb;simp at a;subst a;simp[Op.equalIn,run_underlying bb,aQ]
  ·rename_i bb;simp at a;subst a;simp[Op.equalIn,run_underlying bb,aQ]
  ·rename_i bb;simp at a;subst a;simp[Op.equalIn,run_underlying bb,aQ]
  ·rename_i Ms QD ty QE bb
   rw[hK]at a
   split at a
   ·rename_i E
    subst E
    split at a
    ·rename_i i aN
     simp only[e1]at a
     obtain⟨aA,a⟩:=a
     have:=al lI Ms QD QE r Zo fE vQ a
     simp[Op.equalIn,run_underlying bb,aQ,typeInfo,aN,aA,this]
    ·simp at a
   ·rename_i E
    simp at a;subst a
    simp[Op.equalIn,run_underlying bb,aQ,E]
  all_goals first
   |(rename_i bb;simp at a;subst a;simp[Op.equalIn,run_underlying bb,aQ];done)
   |skip
  ·rename_i j6 cl oo bb
   simp only[GK]at a
   obtain⟨ay,a⟩:=a
   have ch:C.P.fieldsOf t=j6:=by simp[Program.fieldsOf,bb]
   rw[aQ,aQ,run_equalIn_struct w lI t _ _ (by rw[ch];exact bb) ay,ch]
   exact amU (λt x e r fE vQ a=>al lI t x e r Zo fE vQ a) _ _ _ _ fE vQ a
  ·simp at a
end
end Go.bd

