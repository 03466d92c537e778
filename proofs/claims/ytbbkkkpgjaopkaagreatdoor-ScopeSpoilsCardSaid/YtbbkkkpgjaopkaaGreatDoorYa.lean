/- Part of the proof of the last text; no conditions -/
import GoSem.Step
import Derived.KernelRfl
set_option maxHeartbeats 8000000
set_option linter.all false
namespace Go
def Zo{p:Prop}(h:p:=by omega):p:=h
def Za{p q:Prop}(a:p)(b:q):p/\q:=⟨a,b⟩
def Zd{p:Prop}(h:p:=by decide):p:=h
def Zs{p:Prop}(h:p:=by simp):p:=h
def Zx{p:Prop}(h:p:=by simp;omega):p:=h
def Zk{p:Prop}(h:p:=by kernel_rfl):p:=h
def Zb:type_of%@List.getElem?_eq_some_iff:=@List.getElem?_eq_some_iff
def Zc:type_of%@Option.some.injEq:=@Option.some.injEq
def Ze:type_of%@decide_eq_false_iff_not:=@decide_eq_false_iff_not
def Zf:type_of%@List.getElem?_eq_getElem:=@List.getElem?_eq_getElem
def Zg:type_of%@if_neg:=@if_neg
def Zh:type_of%@List.mem_of_getElem?:=@List.mem_of_getElem?
def Zi:type_of%@decide_eq_true_eq:=@decide_eq_true_eq
def Zj:type_of%@Nat.le_refl:=@Nat.le_refl
def Zl:type_of%@Nat.eq_of_beq_eq_true:=@Nat.eq_of_beq_eq_true
def Zn:type_of%@List.mem_cons_of_mem:=@List.mem_cons_of_mem
def Zp:type_of%@List.length_map:=@List.length_map
def Zq:type_of%@Bool.and_eq_true:=@Bool.and_eq_true
def Zr:type_of%@List.mem_cons:=@List.mem_cons
def Zt:type_of%@List.mem_cons_self:=@List.mem_cons_self
def Zu:type_of%@if_pos:=@if_pos
def Zv:type_of%@Bool.false_eq_true:=@Bool.false_eq_true
def Zw:type_of%@List.mem_append:=@List.mem_append
def Zy:type_of%@List.getElem?_map:=@List.getElem?_map
def Zz:type_of%@List.length_cons:=@List.length_cons
def ZA:type_of%@List.drop_eq_getElem_cons:=@List.drop_eq_getElem_cons
def ZB:type_of%@Nat.le_trans:=@Nat.le_trans
def ZC:type_of%@List.mem_map:=@List.mem_map
def ZD:type_of%@if_false:=@if_false
def ZE:type_of%@if_true:=@if_true
def ZF:type_of%@List.getElem?_append_right:=@List.getElem?_append_right
def ZG:type_of%@List.length_append:=@List.length_append
def ZH:type_of%@List.length_pos_iff:=@List.length_pos_iff
def ZI:type_of%@List.getElem?_append_left:=@List.getElem?_append_left
def ZJ:type_of%@List.map_cons:=@List.map_cons
def ZK:type_of%@not_false_eq_true:=@not_false_eq_true
def ZL:type_of%@List.flatten_cons:=@List.flatten_cons
def ZM:type_of%@Option.bind_some:=@Option.bind_some
def ZN:type_of%@List.not_mem_nil:=@List.not_mem_nil
def ZO:type_of%@Array.getElem?_toList:=@Array.getElem?_toList
def ZP:type_of%@Nat.zero_add:=@Nat.zero_add
def ZQ:type_of%@List.take_of_length_le:=@List.take_of_length_le
def ZR:type_of%@List.drop_eq_nil_of_le:=@List.drop_eq_nil_of_le
def ZS:type_of%@Array.getElem?_eq_some_iff:=@Array.getElem?_eq_some_iff
def ZT:type_of%@Nat.lt_of_lt_of_le:=@Nat.lt_of_lt_of_le
def ZU:type_of%@Option.map_some:=@Option.map_some
def ZV:type_of%@Nat.add_mul:=@Nat.add_mul
def ZW:type_of%@List.getElem?_eq_none:=@List.getElem?_eq_none
def ZX:type_of%@Nat.add_assoc:=@Nat.add_assoc
def ZY:type_of%@List.length_nil:=@List.length_nil
def ZZ:type_of%@List.foldl_cons:=@List.foldl_cons
def Z0:type_of%@Nat.eq_of_mul_eq_mul_right:=@Nat.eq_of_mul_eq_mul_right
def Z1:type_of%@List.getElem?_cons_succ:=@List.getElem?_cons_succ
def Z2:type_of%@Option.bind_eq_some_iff:=@Option.bind_eq_some_iff
def Z3:type_of%@List.mem_iff_getElem?:=@List.mem_iff_getElem?
def Z4:type_of%@Option.isSome_none:=@Option.isSome_none
def Z5:type_of%@Nat.add_zero:=@Nat.add_zero
def Z6:type_of%@List.getElem?_cons_zero:=@List.getElem?_cons_zero
def Z7:type_of%@Bool.eq_iff_iff:=@Bool.eq_iff_iff
def Z8:type_of%@Option.isSome_some:=@Option.isSome_some
def Z9:type_of%@List.drop_zero:=@List.drop_zero
def Ya:type_of%@Nat.le_succ:=@Nat.le_succ
def Yb:type_of%@List.eq_nil_of_length_eq_zero:=@List.eq_nil_of_length_eq_zero
def Yc:type_of%@Int.eq_ofNat_of_zero_le:=@Int.eq_ofNat_of_zero_le
def Yd:type_of%@List.take_succ_cons:=@List.take_succ_cons
def Ye:type_of%@List.length_drop:=@List.length_drop
def Yf:type_of%@List.flatMap_cons:=@List.flatMap_cons
def Yg:type_of%@List.set_cons_zero:=@List.set_cons_zero
def Yh:type_of%@List.drop_succ_cons:=@List.drop_succ_cons
def Yi:type_of%@and_true:=@and_true
def Yj:type_of%@Option.bind_assoc:=@Option.bind_assoc
def Yk:type_of%@Option.map_eq_some_iff:=@Option.map_eq_some_iff
def Yl:type_of%@List.set_cons_succ:=@List.set_cons_succ
def Ym:type_of%@Option.some.inj:=@Option.some.inj
def Yn:type_of%@List.append_nil:=@List.append_nil
def Yo:type_of%@List.length_set:=@List.length_set
def Yp:type_of%@Nat.mul_one:=@Nat.mul_one
def Yq:type_of%@decide_false:=@decide_false
def Yr:type_of%@List.mem_of_mem_take:=@List.mem_of_mem_take
def Ys:type_of%@Bool.not_false:=@Bool.not_false
def Yt:type_of%@Bool.not_true:=@Bool.not_true
def Yu:type_of%@List.map_append:=@List.map_append
def Yv:type_of%@Nat.mod_eq_of_lt:=@Nat.mod_eq_of_lt
def Yw:type_of%@or_false:=@or_false
def Yx:type_of%@List.getElem?_set:=@List.getElem?_set
def Yy:type_of%@List.size_toArray:=@List.size_toArray
def Yz:type_of%@decide_true:=@decide_true
def YA:type_of%@Bool.and_self:=@Bool.and_self
def YB:type_of%@List.map_map:=@List.map_map
def YC:type_of%@List.getElem?_drop:=@List.getElem?_drop
def YD:type_of%@beq_self_eq_true:=@beq_self_eq_true
def YE:type_of%@List.length_eq_zero_iff:=@List.length_eq_zero_iff
def YF:type_of%@List.length_take:=@List.length_take
def YG:type_of%@Array.getElem?_append_left:=@Array.getElem?_append_left
def YH:type_of%@List.map_congr_left:=@List.map_congr_left
def YI:type_of%@List.flatten_append:=@List.flatten_append
def YJ:type_of%@List.takeWhile_cons:=@List.takeWhile_cons
def YK:type_of%@List.length_replicate:=@List.length_replicate
def YL:type_of%@Nat.lt_succ_self:=@Nat.lt_succ_self
def YM:type_of%@Option.getD_some:=@Option.getD_some
def YN:type_of%@Nat.sub_zero:=@Nat.sub_zero
def YO:type_of%@Prod.mk.injEq:=@Prod.mk.injEq
def YP:type_of%@List.mem_of_mem_drop:=@List.mem_of_mem_drop
def YQ:type_of%@List.take_add_one:=@List.take_add_one
def YR:type_of%@List.mem_filter:=@List.mem_filter
def YS:type_of%@List.nil_append:=@List.nil_append
def YT:type_of%@List.take_zero:=@List.take_zero
def YU:type_of%@List.mem_or_eq_of_mem_set:=@List.mem_or_eq_of_mem_set
def YV:type_of%@List.pairwise_iff_getElem:=@List.pairwise_iff_getElem
def YW:type_of%@List.ext_getElem?:=@List.ext_getElem?
def YX:type_of%@Int.emod_eq_of_lt:=@Int.emod_eq_of_lt
def YY:type_of%@Array.size_append:=@Array.size_append
def YZ:type_of%@Nat.lt_trichotomy:=@Nat.lt_trichotomy
def Y0:type_of%@Nat.le_of_lt:=@Nat.le_of_lt
def Y1:type_of%@Nat.zero_mul:=@Nat.zero_mul
def Y2:type_of%@beq_iff_eq:=@beq_iff_eq
def Y3:type_of%@List.getElem?_take_of_lt:=@List.getElem?_take_of_lt
def Y4:type_of%@not_or:=@not_or
def Y5:type_of%@Bool.and_true:=@Bool.and_true
def Y6:type_of%@Nat.le_mul_of_pos_right:=@Nat.le_mul_of_pos_right
def Y7:type_of%@Array.ext':=@Array.ext'
def Y8:type_of%@Nat.lt_or_ge:=@Nat.lt_or_ge
def Y9:type_of%@List.set_nil:=@List.set_nil
def za:type_of%@List.cons.injEq:=@List.cons.injEq
def zb:type_of%@Bool.or_eq_true:=@Bool.or_eq_true
def zc:type_of%@Option.map_none:=@Option.map_none
def zd:type_of%@List.nodup_cons:=@List.nodup_cons
def ze:type_of%@Array.getElem?_modify:=@Array.getElem?_modify
def zf:type_of%@Nat.le_div_iff_mul_le:=@Nat.le_div_iff_mul_le
def zg:type_of%@Array.mem_of_getElem?:=@Array.mem_of_getElem?
def zh:type_of%@List.mapM_cons:=@List.mapM_cons
def zi:type_of%@Nat.zero_le:=@Nat.zero_le
def zj:type_of%@Nat.le_of_eq:=@Nat.le_of_eq
def zk:type_of%@Nat.beq_refl:=@Nat.beq_refl
def zl:type_of%@Nat.sub_self:=@Nat.sub_self
def zm:type_of%@List.all_eq_true:=@List.all_eq_true
def zn:type_of%@Nat.add_comm:=@Nat.add_comm
def zo:type_of%@Nat.le_add_right:=@Nat.le_add_right
def zp:type_of%@List.mem_flatMap:=@List.mem_flatMap
def zq:type_of%@List.take_length:=@List.take_length
def zr:type_of%@List.find?_cons:=@List.find?_cons
def zs:type_of%@Nat.mod_lt:=@Nat.mod_lt
def zt:type_of%@Nat.mul_div_cancel:=@Nat.mul_div_cancel
def zu:type_of%@List.mem_singleton:=@List.mem_singleton
def zv:type_of%@List.find?_eq_none:=@List.find?_eq_none
def zw:type_of%@List.drop_drop:=@List.drop_drop
def zx:type_of%@List.foldl_append:=@List.foldl_append
def zy:type_of%@of_decide_eq_true:=@of_decide_eq_true
def zz:type_of%@Nat.not_lt:=@Nat.not_lt
def zA:type_of%@Bool.true_and:=@Bool.true_and
def zB:type_of%@Nat.mul_comm:=@Nat.mul_comm
def zC:type_of%@true_and:=@true_and
def zD:type_of%@and_self:=@and_self
def zE{p q:Prop}(a:q)(h:q->p:=by intro h;omega):p:=h a
def zF(a b:Nat)(h:b<=a:=by omega):decide ((a:Int)<(b:Int))=false:=decide_eq_false (by omega)
def zG(a b:Nat)(h:a<b:=by omega):decide ((a:Int)<(b:Int))=true:=decide_eq_true (by omega)
def zH{α:Type}(l:List α)(i:Nat)(h:i<l.length:=by omega):∃x,l[i]? =some x:=⟨_,List.getElem?_eq_getElem h⟩
end Go
namespace Go.bs
noncomputable section
inductive M(α:Type) where
 |nil
 |node (v:Option α) (k r:M α)
 deriving Inhabited
universe ab
def bH{α:Type ab}(c:Bool)(t D:α):α:=Bool.rec (motive:=λ_=>α) D t c
def M.get{α:Type}(t:M α):Nat->Option α:=
 M.rec (motive:=λ_=>Nat->Option α) (λ_=>none)
  (λv _ _ iB ql i=>Nat.rec (motive:=λ_=>Option α) v (λY _=>bH (Nat.beq (Nat.mod Y 2) 0) (iB (Nat.div Y 2)) (ql (Nat.div Y 2))) i) t
def jo{α eH:Type}(t:M α)(q:M α->eH):eH:=
 M.rec (motive:=λ_=>eH) (q .nil) (λv k r _ _=>q (.node v k r)) t
def M.rA{α:Type}(f:Nat):M α->Nat->Option α->M α:=
 Nat.rec (motive:=λ_=>M α->Nat->Option α->M α) (λt _ _=>t)
  (λ_ aj t i E=>M.rec (motive:=λ_=>M α)
   (Nat.rec (motive:=λ_=>M α) (.node E .nil .nil) (λY _=>bH (Nat.beq (Nat.mod Y 2) 0)
    (jo (aj .nil (Nat.div Y 2) E) λcb=> .node none cb .nil) (jo (aj .nil (Nat.div Y 2) E) λhH=> .node none .nil hH)) i)
   (λv k r _ _=>Nat.rec (motive:=λ_=>M α) (.node E k r) (λY _=>bH (Nat.beq (Nat.mod Y 2) 0)
    (jo (aj k (Nat.div Y 2) E) λcb=> .node v cb r) (jo (aj r (Nat.div Y 2) E) λhH=> .node v k hH)) i) t) f
def qh{eH:Type}(n:Nat)(q:Nat->eH):eH:=Nat.rec (motive:=λ_=>eH) (q 0) (λm _=>q (Nat.succ m)) n
def P1{eH:Type}(n:Int)(q:Int->eH):eH:=
 Int.rec (motive:=λ_=>eH) (λm=>qh m λm=>q (.ofNat m)) (λm=>qh m λm=>q (.negSucc m)) n
def ed{α:Type}(k:List (Nat×α)):Nat->Option α:=
 List.rec (motive:=λ_=>Nat->Option α) (λ_=>none) (λp _ aj Y=>Prod.rec (motive:=λ_=>Option α) (λE b=>bH (Nat.beq E Y) (some b) (aj Y)) p) k
def M.set{α:Type}(t:M α)(i:Nat)(E:Option α):M α:=M.rA (i+1) t i E
def M.ofList{α:Type}:List α->Nat->M α->M α
 |[],_,t=>t
 |E::k,i,t=>jo (t.set i (some E)) λga=>ofList k (i+1) ga
def M.ks{α:Type}(t:M α):Nat->Nat->Option (List α)
 |_,0=>some []
 |W,n+1=>match t.get W with
  |none=>none
  |some E=>match ks t (W+1) n with
   |none=>none
   |some k=>some (E::k)
def rr{α:Type}(k:List α):Nat->Option α:=
 List.rec (motive:=λ_=>Nat->Option α) (λ_=>none) (λE _ aj i=>Nat.rec (motive:=λ_=>Option α) (some E) (λY _=>aj Y) i) k
inductive y where
 |bool (b:Bool)
 |int (q:IntKind) (n:Int)
 |str (s:List Nat)
 |ptr (b W:Nat)
 |cN
 |slice (b W len cap:Nat)
 |ej (b W len aN:Nat)
 |aW
 |map (m:Nat)
 |ms
 |func (fn:Fn) (first fy:List y)
 |nilFunc
 |iface (t:Nat) (v:y)
 |nilIface
 |agg (cs:List y)
 |tuple (bx:List y)
 |wA (b k aN:Nat)
 deriving Inhabited
def y.cells:y->List y
 | .agg cs=>cs
 |v=>[v]
def undef:y:= .tuple []
def Bl{α eH:Type}(f:α->Option eH):List α->Option (List eH)
 |[]=>some []
 |E::k=>match f E with
  |none=>none
  |some b=>match Bl f k with
   |none=>none
   |some r=>some (b::r)
def Bu:Nat->Value->Option y
 |0,_=>none
 |n+1,v=>match v with
  | .bool b=>some (.bool b)
  | .int q n=>some (.int q n)
  | .string s=>some (.str (s.data.toList.map (·.toNat)))
  | .pointer none=>some .cN
  | .slice none 0 0=>some .aW
  | .map none=>some .ms
  | .func (.func f) ⟨[]⟩ ⟨[]⟩=>some (.func (.func f) [] [])
  | .nilFunc=>some .nilFunc
  | .iface t v=>match Bu n v with|some E=>some (.iface t E)|none=>none
  | .nilIface=>some .nilIface
  | .agg cs=>match Bl (Bu n) cs.toList with|some k=>some (.agg k)|none=>none
  | .tuple cs=>match Bl (Bu n) cs.toList with|some k=>some (.tuple k)|none=>none
  |_=>none
def DZ(v:Value):Option y:=Bu 20 v
inductive Oa where
 |fn (fn:Fn) (fy:List y)
 |collected (r:Nat)
structure hy where
 target:Oa
 args:List y
inductive oE where
 |own|marked|grow (ez:List Nat)|j1
 deriving Inhabited
inductive ak where
 |cells (c:M y) (size:Nat) (st:oE)
 |map (ci:List (y×y×Nat)) (fL:Nat)
 |look (ci:List (y×y))
 |ou (s:List Nat) (pos:Nat)
 |ya (m:Option Nat) (u7:Nat) (seen:List Nat) (aef:Nat)
 |Ge (m u7 n:Nat) (cn:List Nat) (st:Nat) (nx:Option Nat)
 |loop (state:LoopState) (pending:Option Code) (fn:Nat) (n ao:Nat) (I:M y) (params:List Nat) (assign body:Code) (defers:Nat)
 |deferred (pC:Option (List hy))
structure aT where
 P:Program
 G:M ak
 aY:Nat
 g4:Nat->List y->Option y
 pg:Nat
def Z(C:aT)(h:M ak)(b:Nat):Option ak:=
 bH (Nat.blt b C.aY) (C.G.get b) (h.get (Nat.sub b C.aY))
def bl(C:aT)(h:M ak)(b:Nat)(W:Option ak):M ak:=h.set (Nat.sub b C.aY) W
def j5(C:aT)(b:Nat):Bool:=Nat.ble C.aY b
structure rG where
 v:y
 recovered:Bool
inductive k4 where
 |run|returning|panicking (chain:List rG)
inductive kk where
 |v (Y:Nat)
 |t (n:Nat)
 |c (E:y)
inductive jM where
 |DP (x:kk)
 |pick (c E b:kk)
 |fm (E:kk)
 |wg (n:Nat) (E:kk)
 |off (d:Nat) (x:kk)
 |AY (n aN:Nat) (x i:kk)
 |AZ (aN:Nat) (x i:kk)
 |DW (x:kk)
 |I4 (op:BinOp) (x e:kk)
 |ext (i:Nat) (x:kk)
 |st (n:Nat) (E v:kk)
 |call (f:Nat) (args:List kk)
 |h2 (bV:List (Nat×Nat)) (W:Op)
 |make (bV:List (Nat×Nat)) (W:Op)
 |e9 (bV:List (Nat×Nat)) (W:Op)
structure fd where
 i:Nat
 g:Option (Nat×Bool)
 op:jM
structure vq where
 tG:List fd
 S3:List fd
 e9:Option fd
inductive dG where
 |code (c:Code)
 |inBlock (id:Nat)
 |inLoop (body:Code)
 |inScope (body:Code)
 |Gx (ar:Array Oper) (aq:List (Nat×y)) (rest:List fd) (fin:List (Nat×Nat))
 |drawn (ar:Array Oper) (base:Nat) (aq:List (Nat×y)) (lo:List vq) (fin:List (Nat×Nat))
 |sQ (ar:Array Oper) (aq:List (Nat×y)) (a:Nat) (rest:List fd) (fin:List (Nat×Nat))
 |yu (ar:Array Oper) (base:Nat) (aq:List (Nat×y)) (a:Nat) (lo:List vq) (fin:List (Nat×Nat))
 |inRangeFunc (k:Nat)
 |endRangeFunc (k:Nat)
 |beginRound
structure gB where
 fn:Nat
 n:Nat
 ao:Nat
 I:M y
 todo:List dG
 defers:List hy
 mode:k4
 deferred:Bool
 roundOf:Option Nat
section ar
variable(C:aT)
def ji(t:Nat):Option Nat:=match C.P.info? t with|some i=>some i.size|none=>none
def sT(t:Nat):Option y:=match C.P.info? t with|some i=>(match i.zero with|some v=>DZ v|none=>none)|none=>none
def DB(t:Nat):Option Bool:=match C.P.underlying t with
 |some (.struct _)=>some true|some (.array _ _)=>some true|some _=>some false|none=>none
def nk:List y->Nat->List y->List y
 |cs,_,[]=>cs
 |cs,W,v::k=>nk (cs.set W v) (W+1) k
def Ai(Gp:Nat->Option (Nat×Nat)):List y->List (Nat×y)->Option (List y)
 |cells,[]=>some cells
 |cells,(i,v)::rest=>match Gp i with
  |none=>none
  |some (off,size)=>
   bH (Nat.beq v.cells.length size&&Nat.ble (off+size) cells.length) (Ai Gp (nk cells off v.cells) rest)<|none
def kX:Nat->List y->List y
 |0,_=>[]
 |n+1,bo=>bo++kX n bo
def xl(ax:Operand->Option y):List (Nat×Operand)->Option (List (Nat×y))
 |[]=>some []
 |(i,x)::k=>match ax x,xl ax k with|some v,some r=>some ((i,v)::r)|_,_=>none
def pG(ax:Operand->Option y):List Operand->Option (List y)
 |[]=>some []
 |x::k=>match ax x,pG ax k with|some v,some r=>some (v::r)|_,_=>none
def Ty(jT:List Field)(i:Nat):Option (Nat×Nat):=
 match rr jT i with
 |some f=>(match ji C f.type with|some s=>some (f.offset,s)|none=>none)
 |none=>none
def Nh:List Field->Bool
 |[]=>true
 |f::k=>(match ji C f.type with|some _=>true|none=>false)&&Nh k
def KB(t:Nat)(parts:List (Nat×y)):Option y:=
 match sT C t with
 |none=>none
 |some bo=>match C.P.underlying t with
  |some (.struct jT)=>bH (Nh C jT.toList) (match Ai (Ty C jT.toList) bo.cells parts with|some cs=>some (.agg cs)|none=>none) none
  |some (.array _ d6)=>(match ji C d6 with
   |some s=>(match Ai (λi=>some (i*s,s)) bo.cells parts with|some cs=>some (.agg cs)|none=>none)
   |none=>none)
  |_=>none
def Cq(t:Nat)(cs:List y)(off:Nat):Option y:=
 match DB C t,ji C t with
 |some true,some s=>some (.agg ((cs.drop off).take s))
 |some false,_=>rr cs off
 |_,_=>none
def mP:List Nat->List Nat->Bool
 |[],[]=>true
 |E::x,b::e=>Nat.beq E b&&mP x e
 |_,_=>false
def Bo:List Nat->List Nat->Bool
 |_,[]=>false
 |[],_::_=>true
 |E::x,b::e=>Nat.blt E b||(Nat.beq E b&&Bo x e)
def Nq(h:M ak)(b W:Nat):Bool:=match Z C h b with
 |some (.cells _ n .own)=>j5 C b&&Nat.blt W n
 |_=>false
def F9(h:M ak)(b W:Nat):Bool:=match Z C h b with
 |some (.cells _ _ .j1)=>false
 |some (.cells _ n _)=>Nat.blt W n
 |_=>false
def ptrEq(h:M ak)(b W cQ o':Nat):Option Bool:=
 bH (Nat.beq b cQ) (some (Nat.beq W o')) (bH (Nq C h b W&&F9 C h cQ o'||Nq C h cQ o'&&F9 C h b W) (some false) none)
def He(eq:Nat->y->y->Option Bool):List Field->List y->List y->Option Bool
 |[],_,_=>some true
 |f::j6,xs,fJ=>
  bH (f.name== "_") none<|
  match Cq C f.type xs f.offset,Cq C f.type fJ f.offset with
  |some E,some b=>(match eq f.type E b with
   |some true=>He eq j6 xs fJ
   |some false=>some false
   |none=>none)
  |_,_=>none
def l1(q ey:IntKind):Bool:=match q,ey with
 | .i8, .i8=>true| .i16, .i16=>true| .i32, .i32=>true| .i64, .i64=>true
 | .u8, .u8=>true| .u16, .u16=>true| .u32, .u32=>true| .u64, .u64=>true
 |_,_=>false
def KP(E b:Bool):Bool:=match E,b with|true,true=>true|false,false=>true|_,_=>false
def wc(x e:Int):Bool:=match x,e with
 | .ofNat E, .ofNat b=>Nat.beq E b
 | .negSucc E, .negSucc b=>Nat.beq E b
 |_,_=>false
def xZ(x e:Int):Bool:=match x,e with
 | .ofNat E, .ofNat b=>Nat.blt E b
 | .negSucc E, .negSucc b=>Nat.blt b E
 | .negSucc _, .ofNat _=>true
 | .ofNat _, .negSucc _=>false
def nu(h:M ak):Nat->Nat->y->y->Option Bool
 |0,_,_,_=>none
 |d+1,t,x,e=>
  match C.P.underlying t,x,e with
  |some .bool, .bool E, .bool b=>some (KP E b)
  |some (.int _), .int q E, .int ey b=>bH (l1 q ey) (some (wc E b)) none
  |some .string, .str E, .str b=>some (mP E b)
  |some (.pointer _), .cN, .cN=>some true
  |some (.pointer _), .cN, .ptr _ _=>some false
  |some (.pointer _), .ptr _ _, .cN=>some false
  |some (.pointer D), .ptr b W, .ptr cQ o'=>
   (
    match ji C D with
    |some s=>bH (Nat.beq s 0) none (ptrEq C h b W cQ o')
    |none=>none)
  |some (.interface _), .nilIface, .nilIface=>some true
  |some (.interface _), .nilIface, .iface _ _=>some false
  |some (.interface _), .iface _ _, .nilIface=>some false
  |some (.interface _), .iface J2 NY, .iface ty NZ=>bH (Nat.beq J2 ty) (match C.P.info? J2 with
   |some i=>bH i.comparable (nu h d J2 NY NZ) none
   |none=>none) (some false)
  |some (.slice _), .aW, .aW=>some true
  |some (.slice _), .aW, .slice .. =>some false
  |some (.slice _), .aW, .ej .. =>some false
  |some (.slice _), .slice .., .aW=>some false
  |some (.slice _), .ej .., .aW=>some false
  |some (.map _ _), .ms, .ms=>some true
  |some (.map _ _), .ms, .map _=>some false
  |some (.map _ _), .map _, .ms=>some false
  |some (.func _ _ _), .nilFunc, .nilFunc=>some true
  |some (.func _ _ _), .nilFunc, .func .. =>some false
  |some (.func _ _ _), .func .., .nilFunc=>some false
  |some (.struct jT), .agg xs, .agg fJ=>bH (C.P.stoodInHeld t) none (He C (nu h d) jT.toList xs fJ)
  |_,_,_=>none
def ps(q:IntKind)(n:Int):Int:=
 match q with
 | .i64=>(λm:Int=>bH (decide (m<9223372036854775808)) m (m-18446744073709551616)) (n%18446744073709551616)
 | .u64=>n%18446744073709551616
 | .u8=>n%256
 |q=>q.wrap n
def o7(q:IntKind)(n:Int):Option y:=P1 n λn=>some (.int q n)
def lj(q:IntKind)(n:Int):Option y:=P1 (ps q n) λn=>some (.int q n)
def m3(b:Bool):Option y:=bH b (some (.bool true)) (some (.bool false))
def lu(op:BinOp):IntKind->Int->Int->Option y:=
 match op with
 | .add=>λq x e=>lj q (x+e)
 | .sub=>λq x e=>lj q (x-e)
 | .mul=>λq x e=>lj q (x*e)
 | .quo=>λq x e=>bH (wc e 0) none (lj q (x.tdiv e))
 | .rem=>λq x e=>bH (wc e 0) none (o7 q (x.tmod e))
 | .and=>λq x e=>lj q ((BitVec.ofInt q.bits x&&& BitVec.ofInt q.bits e).toNat)
 | .or=>λq x e=>lj q ((BitVec.ofInt q.bits x|||BitVec.ofInt q.bits e).toNat)
 | .xor=>λq x e=>lj q ((BitVec.ofInt q.bits x^^^BitVec.ofInt q.bits e).toNat)
 | .andNot=>λq x e=>lj q ((BitVec.ofInt q.bits x&&& ~~~ BitVec.ofInt q.bits e).toNat)
 | .eql=>λ_ x e=>m3 (wc x e)
 | .neq=>λ_ x e=>m3 (!wc x e)
 | .lss=>λ_ x e=>m3 (xZ x e)
 | .leq=>λ_ x e=>m3 (!xZ e x)
 | .gtr=>λ_ x e=>m3 (xZ e x)
 | .geq=>λ_ x e=>m3 (!xZ x e)
 |_=>λ_ _ _=>none
def Hh(op:BinOp)(q:IntKind)(x e:Int):Option y:=
 bH (xZ e 0) none
 (match op with
 | .shl=>lj q (x*2^(min e.toNat q.bits))
 | .shr=>o7 q (x.fdiv (2^(min e.toNat q.bits)))
 |_=>none)
def lA(op:BinOp):Bool:=match op with| .shl| .shr=>true|_=>false
def wZ(op:BinOp)(x e:List Nat):Option y:=
 match op with
 | .add=>bH (Nat.ble (x.length+e.length) 1000000000) (some (.str (x++e)))<|none
 | .eql=>m3 (mP x e)
 | .neq=>m3 (!mP x e)
 | .lss=>m3 (Bo x e)
 | .leq=>m3 (Bo x e||mP x e)
 | .gtr=>m3 (!(Bo x e||mP x e))
 | .geq=>m3 (!Bo x e)
 |_=>none
def bg(op:BinOp)(x e:y):Option y:=
 match x,e with
 | .int q E, .int ey b=>bH (lA op) (Hh op q E b) (bH (l1 q ey) (lu op q E b) none)
 |_,_=>none
def E2(t:Nat)(ta:Bool)(x e:y):Bool:=match x,e with
 | .nilIface, .nilIface=>ta||(match C.P.underlying t with|some (.interface im)=>im.isEmpty|_=>false)
 | .agg _, .agg _=> !C.P.eqGuardType C.P.depth t
 |_,_=>true
def dD(h:M ak)(op:BinOp)(t:Nat)(ta:Bool)(x e:y):Option y:=
 match x,e with
 | .int q E, .int ey b=>bg op (.int q E) (.int ey b)
 | .str E, .str b=>wZ op E b
 |x,e=>bH (E2 C t ta x e) (match op with
  | .eql=>(match nu C h 50 t x e with|some b=>m3 b|none=>none)
  | .neq=>(match nu C h 50 t x e with|some b=>m3 (!b)|none=>none)
  |_=>none) none
def he(op:UnOp)(x:y):Option y:=
 match op,x with
 | .neg, .int q n=>lu .sub q 0 n
 | .xor, .int q n=>lu .xor q (if q.signed then -1 else q.max) n
 | .not, .bool b=>m3 (!b)
 |_,_=>none
def OV(src dst:Nat)(x:y):Option y:=
 match C.P.underlying src,C.P.underlying dst,x with
 |some _,some (.int q), .int _ n=>lj q n
 |some _,some .string, .str s=>some (.str s)
 |_,_,_=>none
def ng(v:y):Option Nat:=match v with| .int _ n=>(match n with| .ofNat n=>some n|_=>none)|_=>none
def nK(W:Option y)(m d:Nat):Option Nat:=match W with
 |some v=>(match ng v with|some n=>bH (Nat.ble n m) (some n)<|none|none=>none)
 |none=>some d
def md(len cap:Nat)(bR aF g3:Option y):Option (Nat×Nat×Nat):=
 match nK g3 cap cap with
 |none=>none
 |some m=>match (match aF,g3 with
   |none,some _=>none
   |aF,_=>nK aF m len)with
  |none=>none
  |some a=>match nK bR a 0 with
   |none=>none
   |some k=>some (k,a,m)
def Bz(ax:Operand->Option y):Option Operand->Option (Option y)
 |none=>some none
 |some x=>match ax x with|some v=>some (some v)|none=>none
def u9(h:M ak)(b:Nat):Option Nat:=match Z C h b with|some (.cells _ n (.grow _))=>some n|some (.cells _ n .j1)=>some n|_=>none
def KH(h:M ak)(t:Nat)(x:y)(bR aF g3:Option y):Option y:=
 match C.P.underlying t,x with
 |some .string, .str s=>(match g3 with
  |some _=>none
  |none=>(match md s.length s.length bR aF none with
   |some (k,a,_)=>some (.str ((s.drop k).take (a-k)))
   |none=>none))
 |some (.slice d6), .slice b W len cap=>(match md len cap bR aF g3,ji C d6 with
  |some (k,a,m),some aN=>some (.slice b (bH (Nat.beq m k) (W)<|W+k*aN) (a-k) (m-k))
  |_,_=>none)
 |some (.slice d6), .aW=>(match md 0 0 bR aF g3,ji C d6 with
  |some _,some _=>some .aW
  |_,_=>none)
 |some (.slice d6), .ej b W len aN=>(match ji C d6,u9 C h b with
  |some wC,some n=>bH (Nat.beq aN wC&&Nat.blt 0 aN) ((match md len ((n-W)/aN) bR aF g3 with
    |some (k,a,m)=>(match g3 with
     |some _=>some (.slice b (bH (Nat.beq m k) (W)<|W+k*aN) (a-k) (m-k))
     |none=>bH (Nat.blt k ((n-W)/aN)||Nat.beq k 0) (some (.ej b (W+k*aN) (a-k) aN))<|bH (Nat.beq W 0&&Nat.beq a k) (some (.wA b k aN)) none)
    |none=>none))<|none
  |_,_=>none)
 |some (.array n d6), .ptr b W=>(match md n n bR aF g3,ji C d6 with
  |some (k,a,m),some aN=>some (.slice b (bH (Nat.beq m k) (W)<|W+k*aN) (a-k) (m-k))
  |_,_=>none)
 |_,_=>none
def KE(t:Nat)(x i:y):Option y:=
 match ng i with
 |none=>none
 |some i=>match C.P.underlying t,x with
  |some (.array n d6), .agg cs=>(match ji C d6 with|some aN=>bH (Nat.blt i n) (Cq C d6 cs (i*aN))<|none|none=>none)
  |some .string, .str s=>(match rr s i with|some c=>some (.int .u8 (Int.ofNat c))|none=>none)
  |_,_=>none
def cellsOf(h:M ak)(b:Nat):Option (M y):=match Z C h b with
 |some (.cells c _ _)=>some c
 |_=>none
def aV(h:M ak)(E:y):Option y:=
 match E with
 | .ptr b W=>(match cellsOf C h b with
   |some c=>c.get W
   |none=>none)
 |_=>none
def dT(h:M ak)(n:Nat)(E:y):Option y:=
 match E with
 | .ptr b W=>(match cellsOf C h b with
   |some c=>(match c.ks W n with|some k=>some (.agg k)|none=>none)
   |none=>none)
 |_=>none
def pB(h:M ak)(t:Nat)(E:y):Option y:=
 match DB C t,ji C t with
 |some true,some s=>dT C h s E
 |some false,_=>aV C h E
 |_,_=>none
def nw:Nat->Nat->y->Bool
 |0,_,_=>false
 |n+1,t,v=>match C.P.underlying t,v with
  |some (.interface _), .iface d x=>(match C.P.info? d with|some i=>i.comparable&&nw n d x|none=>false)
  |some (.interface _), .nilIface=>true
  |some (.interface _),_=>false
  |some (.struct jT), .agg cs=>jT.toList.all λf=>f.name== "_"||(match Cq C f.type cs f.offset with|some p=>nw n f.type p|none=>false)
  |some (.struct _),_=>false
  |some (.array _ _),_=>false
  |some _,_=>true
  |none,_=>false
def pa:Nat->y->y->Bool
 |0,_,_=>false
 |n+1,x,e=>match x,e with
  | .bool E, .bool b=>KP E b
  | .int q E, .int ey b=>l1 q ey&&wc E b
  | .str E, .str b=>mP E b
  | .ptr b W, .ptr cQ o'=>Nat.beq b cQ&&Nat.beq W o'
  | .cN, .cN=>true
  | .nilIface, .nilIface=>true
  | .iface t v, .iface ga gj=>Nat.beq t ga&&pa n v gj
  | .agg E, .agg b=>A7 n E b
  |_,_=>false
 where
 A7 (n:Nat):List y->List y->Bool
 |[],[]=>true
 |x::E,e::b=>pa n x e&&A7 n E b
 |_,_=>false
def findKey(h:M ak)(t:Nat)(q:y):List (y×y×Nat)->Nat->Option (Option (Nat×y))
 |[],_=>some none
 |(ey,v,_)::ci,i=>match nu C h 20 t q ey with
  |some true=>some (some (i,v))
  |some false=>findKey h t q ci (i+1)
  |none=>none
def pf(h:M ak)(t:Nat)(q:y):List (y×y)->Option (Option y)
 |[]=>some none
 |(ey,v)::ci=>match pf h t q ci,nu C h 20 t q ey with
  |some r,some false=>some r
  |some none,some true=>some (some v)
  |_,_=>none
def Ga(r:Option (Option y)):Option (Option (Nat×y)):=match r with
 |some (some v)=>some (some (0,v))
 |some none=>some none
 |none=>none
def KG(h:M ak)(t:Nat)(m q:y)(ok:Bool):Option y:=
 match C.P.underlying t with
 |some (.map jG Ad)=>
  (match (match m with
   | .ms=>bH (nw C 20 jG q) (some none) none
   | .map r=>(match Z C h r with|some (.map ci _)=>bH (nw C 20 jG q) (findKey C h jG q ci 0) none|some (.look ci)=>bH (nw C 20 jG q) (Ga (pf C h jG q ci)) none|_=>none)
   |_=>none)with
  |none=>none
  |some none=>(match sT C Ad with|some bo=>some (bH (ok) (.tuple [bo, .bool false])<|bo)|none=>none)
  |some (some (_,v))=>some (bH (ok) (.tuple [v, .bool true])<|v))
 |_=>none
def KF(h:M ak)(t:Nat)(x:y):Option y:=
 match C.P.underlying t,x with
 |some .string, .str s=>o7 .i64 (Int.ofNat s.length)
 |some (.array n _),_=>some (.int .i64 (Int.ofNat n))
 |some (.pointer cd),_=>(match C.P.underlying cd with|some (.array n _)=>some (.int .i64 (Int.ofNat n))|_=>none)
 |some (.slice _), .slice _ _ n _=>o7 .i64 (Int.ofNat n)
 |some (.slice _), .ej _ _ n _=>o7 .i64 (Int.ofNat n)
 |some (.slice _), .aW=>some (.int .i64 0)
 |some (.map _ _), .ms=>some (.int .i64 0)
 |some (.map _ _), .map r=>(match Z C h r with|some (.map ci _)=>o7 .i64 (Int.ofNat ci.length)|_=>none)
 |_,_=>none
def KC(t:Nat)(x:y):Option y:=
 match C.P.underlying t,x with
 |some (.slice _), .slice _ _ _ n=>o7 .i64 (Int.ofNat n)
 |some (.slice _), .aW=>some (.int .i64 0)
 |_,_=>none
def oG(g3:Bool):y->List y->Option y
 |v,[]=>some v
 | .int q x, .int _ e::k=>oG g3 (.int q (bH (g3) ((bH (xZ x e) (e)<|x))<|(bH (xZ e x) (e)<|x))) k
 |_,_=>none
def w9:List y->Option (List Nat)
 |[]=>some []
 | .int .u8 (.ofNat n)::k=>(match w9 k with|some r=>some (n%256::r)|none=>none)
 |_=>none
def ix(h:M ak)(b W n:Nat):Option (List y):=
 match cellsOf C h b with
 |some c=>c.ks W n
 |none=>bH (Nat.beq n 0) (some []) none
def EG(h:M ak)(x:y):Option y:=
 match x with
 | .aW=>some (.str [])
 | .slice b W len _=>(match ix C h b W len with|some k=>(match w9 k with|some s=>some (.str s)|none=>none)|none=>none)
 | .ej b W len _=>(match ix C h b W len with|some k=>(match w9 k with|some s=>some (.str s)|none=>none)|none=>none)
 |_=>none
def Sg(t:Nat)(parts:Array (Nat×Operand))(_:M ak)(ax:Operand->Option y):Option y:=
 match xl ax parts.toList with|some da=>KB C t da|none=>none
def qD(W:Operand):Bool:=match W with| .const _=>true|_=>false
def MO(op:BinOp)(t:Nat)(x e:Operand)(h:M ak)(ax:Operand->Option y):Option y:=
 match ax x,ax e with|some E,some b=>dD C h op t (qD x||qD e) E b|_,_=>none
def So(op:UnOp)(x:Operand)(_:M ak)(ax:Operand->Option y):Option y:=
 match ax x with|some E=>he op E|none=>none
def Je(s d:Nat)(x:Operand)(h:M ak)(ax:Operand->Option y):Option y:=
 match ax x with
 |some E=>(match OV C s d E with
  |some v=>some v
  |none=>(match C.P.underlying s,C.P.underlying d with
   |some (.slice D),some .string=>(match C.P.underlying D with|some (.int .u8)=>EG C h E|_=>none)
   |_,_=>none))
 |none=>none
def Jg(t:Nat)(x:Operand)(_:M ak)(ax:Operand->Option y):Option y:=
 match C.P.underlying t,ax x with
 |some (.interface _),_=>none
 |some _,some v=>some (.iface t v)
 |_,_=>none
def Sk(fn:Fn)(first fy:Array Operand)(_:M ak)(ax:Operand->Option y):Option y:=
 match pG ax first.toList,pG ax fy.toList with
 |some E,some b=>(match fn with| .func f=>some (.func (.func f) E b)|_=>none)
 |_,_=>none
def Sn(t:Nat)(x:Operand)(bR aF g3:Option Operand)(h:M ak)(ax:Operand->Option y):Option y:=
 match ax x,Bz ax bR,Bz ax aF,Bz ax g3 with
 |some v,some k,some a,some m=>KH C h t v k a m
 |_,_,_,_=>none
def Jf(t:Nat)(x:Operand)(f:Nat)(_:M ak)(ax:Operand->Option y):Option y:=
 match C.P.underlying t,ax x with
 |some (.struct jT),some (.agg cs)=>(match rr jT.toList f with
  |some r5=>Cq C r5.type cs r5.offset
  |none=>none)
 |_,_=>none
def Sl(t:Nat)(x i:Operand)(_:M ak)(ax:Operand->Option y):Option y:=
 match ax x,ax i with|some E,some b=>KE C t E b|_,_=>none
def Sm(t:Nat)(m q:Operand)(ok:Bool)(h:M ak)(ax:Operand->Option y):Option y:=
 match ax m,ax q with|some E,some b=>KG C h t E b ok|_,_=>none
def Jd(x:Operand)(uf:Nat)(ok:Bool)(_:M ak)(ax:Operand->Option y):Option y:=
 match C.P.underlying uf,ax x with
 |some (.interface _),_=>none
 |some _,some .nilIface=>bH (ok) ((match sT C uf with|some bo=>some (.tuple [bo, .bool false])|none=>none))<|none
 |some _,some (.iface t v)=>bH (Nat.beq t uf) (some (bH (ok) (.tuple [v, .bool true])<|v))<|bH (ok) ((match sT C uf with|some bo=>some (.tuple [bo, .bool false])|none=>none))<|none
 |_,_=>none
def Sh(b:Builtin)(args:Array Operand)(cX:Array TypeId)(h:M ak)(ax:Operand->Option y):Option y:=
 match b,pG ax args.toList with
 | .len,some [x]=>(match cX.toList with|t::_=>KF C h t x|_=>none)
 | .cap,some [x]=>(match cX.toList with|t::_=>KC C t x|_=>none)
 | .max,some (x::k)=>oG true x k
 | .min,some (x::k)=>oG false x k
 |_,_=>none
def Si(c:Call)(h:M ak)(ax:Operand->Option y):Option y:=
 match c with
 |⟨.builtin b,args,cX⟩=>Sh C b args cX h ax
 |_=>none
def ab8:List Nat->Option Nat
 |[]=>none
 |E::k=>match k with|[]=>some E|_=>ab8 k
def Sj(_:Operand)(_:M ak)(_:Operand->Option y):Option y:=(λ_:aT=>none) C
def nZ(W:Op):aT->M ak->(Operand->Option y)->Option y:=
 match W with
 | .build t parts=>λC=>Sg C t parts
 | .binOp op t x e _=>λC=>MO C op t x e
 | .unOp op _ x=>λ_=>So op x
 | .convert s d x=>λC=>Je C s d x
 | .makeInterface t x=>λC=>Jg C t x
 | .makeFunc fn first fy=>λ_=>Sk fn first fy
 | .slice t x bR aF g3=>λC=>Sn C t x bR aF g3
 | .field t x f=>λC=>Jf C t x f
 | .index t x i=>λC=>Sl C t x i
 | .lookup t m q ok=>λC=>Sm C t m q ok
 | .typeAssert x _ uf ok=>λC=>Jd C x uf ok
 | .entry ew=>λC=>Sj C ew
 | .call c=>λC=>Si C c
 |_=>λ_ _ _=>none
def BL(c:jM):Bool:=match c with
 | .fm _| .wg _ _=>true
 | .h2 _ W=>(match W with
   | .lookup .. | .convert .. | .slice .. | .call _| .binOp .. | .entry _=>true
   |_=>false)
 |_=>false
def DM(t:Nat)(_:Operand->Option y)(b:Nat):Option (y×ak):=
 match sT C t with|some bo=>some (.ptr b 0, .cells (M.ofList bo.cells 0 .nil) bo.cells.length .own)|none=>none
def Jn(x:Operand)(ax:Operand->Option y)(b:Nat):Option (y×ak):=
 match ax x with|some v=>some (.ptr b 0, .cells (M.ofList v.cells 0 .nil) v.cells.length .own)|none=>none
def Jo(t len:Nat)(parts:Array (Nat×Operand))(ax:Operand->Option y)(b:Nat):Option (y×ak):=
 match C.P.underlying t,xl ax parts.toList with
 |some (.slice d6),some da=>(match ji C d6,sT C d6 with
  |some s,some bo=>bH (Nat.ble (len*s) 16777216&&Nat.beq bo.cells.length s) ((match Ai (λi=>some (i*s,s)) (kX len bo.cells) da with
    |some cs=>some (.slice b 0 len len, .cells (M.ofList cs 0 .nil) cs.length .own)
    |none=>none))<|none
  |_,_=>none)
 |_,_=>none
def qc(W:Op):aT->(Operand->Option y)->Nat->Option (y×ak):=
 match W with
 | .alloc t=>λC=>DM C t
 | .box _ x=>λ_=>Jn x
 | .buildSlice t len parts=>λC=>Jo C t len parts
 | .makeMap _ none=>λ_ _ b=>some (.map b, .map [] 0)
 |_=>λ_ _ _=>none
def mM:List Nat->M ak->M ak
 |[],a=>a
 |b::k,a=>mM k (bl C a b none)
def d3:M y->Nat->List y->M y
 |c,_,[]=>c
 |c,W,v::k=>jo (c.set W (some v)) λc=>d3 c (W+1) k
def l3(v:y):Bool:=match v with| .agg _=>false| .tuple _=>false|_=>true
def iI:List y->Bool
 |[]=>true
 |v::k=>l3 v&&iI k
def rZ(h:M ak)(b W:Nat)(bx:List y):Option (M ak):=
 match Z C h b with
 |some (.cells c n st)=>bH (Nat.ble (W+bx.length) n&&j5 C b&&iI bx) ((match st with
   | .own=>jo (d3 c W bx) λc=>jo (bl C h b (some (.cells c n .own))) λh=>some h
   | .marked=>jo (d3 c W bx) λc=>jo (bl C h b (some (.cells c n .marked))) λh=>some h
   | .grow ez=>jo (d3 c W bx) λc=>jo (bl C (mM C ez h) b (some (.cells c n (.grow [])))) λh=>some h
   |_=>none))<|none
 |_=>none
def hI(h:M ak)(aN:Nat)(x:y):Option (Nat×List y):=
 match x with
 | .aW=>some (0,[])
 | .wA _ _ _=>some (0,[])
 | .slice b W len _=>(match ix C h b W (len*aN)with|some k=>some (len,k)|none=>none)
 | .ej b W len _=>(match ix C h b W (len*aN)with|some k=>some (len,k)|none=>none)
 | .str s=>bH (Nat.beq aN 1) (some (s.length,s.map λn=>y.int .u8 (Int.ofNat n))) none
 |_=>none
inductive dZ where
 |val (v:y)
 |fq (v:y) (h:M ak) (j:Nat)
 |enter (f:Nat) (args:List y)
 |known (f:Nat) (args:List y) (v:y)
 |round (k:Nat) (args:List y)
 |defer (d:hy)
 |recover
 |panic (v:y)
 |fork (k:List (y×M ak))
def mQ(C:aT)(h:M ak)(j:Nat)(W:ak)(q:Nat->y):Option dZ:=
 qh j λj=>jo (bl C h j (some W)) λh=>some (.fq (q j) h (j+1))
def sa(h:M ak)(j n aN:Nat)(k:List y):Option dZ:=
 bH (Nat.ble n 1048576) (mQ C h j (.cells (M.ofList k 0 .nil) k.length (.grow [])) λb=> .ej b 0 n aN)<|none
def Hk(h:M ak)(j:Nat)(b W len aN n:Nat)(k:List y):Option dZ:=
 match Z C h b with
 |some (
   .cells c size (.grow ez))=>bH (j5 C b)
  (bH (
   Nat.ble (W+(len+n)*aN) size)
   (match rZ C h b (W+len*aN) k with|some R=>some (.fq (.ej b W (len+n) aN) R j)|none=>none)
   (bH (Nat.ble (len+n) 1048576&&iI k) (bH (Nat.beq (W+len*aN) size&&Nat.beq W 0)
    (jo (d3 c size k) λgC=>mQ C (bl C h b (some (.cells c size .j1))) j (.cells gC (size+k.length) (.grow (b::ez))) λcQ=> .ej cQ 0 (len+n) aN)
    (match c.ks W (len*aN)with
    |some fb=>mQ C (bl C (mM C ez h) b none) j (.cells (M.ofList (fb++k) 0 .nil) (fb++k).length (.grow [])) λcQ=> .ej cQ 0 (len+n) aN
    |none=>none)) none)) none
 |_=>none
def vr(h:M ak)(j:Nat)(aN n:Nat)(k:List y)(s:y):Option dZ:=
 match s with
 | .aW=>sa C h j n aN k
 | .slice b W len cap=>bH (Nat.ble (len+n) cap) ((match rZ C h b (W+len*aN) k with|some R=>some (.fq (.slice b W (len+n) cap) R j)|none=>none))<|(match ix C h b W (len*aN)with
    |some fb=>sa C h j (len+n) aN (fb++k)
    |none=>none)
 | .ej b W len wC=>bH (Nat.beq wC aN) (Hk C h j b W len aN n k)<|none
 |_=>none
def Cs(h:M ak)(aN:Nat)(s:y):Option dZ:=
 match s with
 | .aW=>some (.val .aW)
 | .slice b W len cap=>bH (Nat.ble len cap) (some (.val (.slice b W len cap))) none
 | .ej b W len wC=>bH (Nat.beq wC aN) (match u9 C h b with
   |some n=>bH (Nat.ble (W+len*aN) n) (some (.val (.ej b W len wC))) none
   |none=>none) none
 |_=>none
def KD(h:M ak)(j:Nat)(st:Nat)(s:y)(n:Nat):Option dZ:=
 match C.P.underlying st with
 |some (.slice d6)=>(match C.P.info? d6,sT C d6 with
  |some i,some bo=>bH (Nat.blt 0 i.size&&Nat.ble i.bytes 65536&&Nat.beq bo.cells.length i.size&&Nat.ble n 1048576) (bH (Nat.beq n 0) (Cs C h i.size s)<|vr C h j i.size n (kX n bo.cells) s)<|none
  |_,_=>none)
 |_=>none
def aeU(i:TypeInfo):Bool:=match i.zero with|some bo=>Nat.beq bo.cells.size i.size|none=>false
def EE(h:M ak)(j:Nat)(st:Nat)(s x:y):Option dZ:=
 match C.P.underlying st with
 |some (.slice d6)=>(match C.P.info? d6 with
  |some i=>(match hI C h i.size x with
   |some (n,k)=>bH (Nat.blt 0 i.size&&Nat.ble i.bytes 65536&&aeU i) ((bH (Nat.beq n 0) (Cs C h i.size s)<|vr C h j i.size n k s))<|none
   |none=>none)
  |none=>none)
 |_=>none
def awQ(h:M ak)(j:Nat)(b W m:Nat)(k:List y):Option dZ:=
 bH (Nat.beq m 0) (some (.val (.int .i64 0)))<|
 (match rZ C h b W k with|some R=>some (.fq (.int .i64 (Int.ofNat m)) R j)|none=>none)
def setObj(h:M ak)(j:Nat)(r:Nat)(W:ak)(v:y):Option dZ:=
 bH (j5 C r) (jo (bl C h r (some W)) λh=>some (.fq v h j))<|none
def Hf(h:M ak)(j:Nat)(t:Nat)(m q v:y):Option dZ:=
 match C.P.underlying t,m with
 |some (.map jG _), .map r=>(match Z C h r with
  |some (.map ci fL)=>bH (nw C 20 jG q) (match findKey C h jG q ci 0 with
   |some (some (i,_))=>(match rr ci i with
    |some (ey,_,born)=>bH (pa 20 ey q) (setObj C h j r (.map (ci.set i (q,v,born)) fL) undef) none
    |none=>none)
   |some none=>setObj C h j r (.map (ci++[(q,v,fL)]) (fL+1)) undef
   |none=>none) none
  |_=>none)
 |_,_=>none
def Nt(x e:y):Bool:=match x,e with
    | .bool E, .bool b=>KP E b
    | .int q E, .int ey b=>l1 q ey&&wc E b
    | .str E, .str b=>mP E b
    | .aW, .aW=>true
    | .cN, .cN=>true
    | .nilIface, .nilIface=>true
    |_,_=>false
def D5:List y->List y->Bool
 |[],[]=>true
 |E::x,b::e=>Nt E b&&D5 x e
 |_,_=>false
def known(f:Nat)(args:List y):List (Nat×List y×y)->Option y
 |[]=>none
 |(g,ca,v)::k=>bH (Nat.beq f g&&D5 args ca) (some v)<|known f args k
def rY(f:Nat)(args:List y):Option dZ:=
 match C.g4 f args with
 |some v=>some (.known f args v)
 |none=>(match C.P.funcs[f]? with
  |some fn=>(match fn.body with
   |some _=>some (.enter f args)
   |none=>none)
  |none=>none)
def tR:List Nat->List Nat->Bool
 |[],_=>true
 |E::e,b::x=>Nat.beq E b&&tR e x
 |_::_,[]=>false
def oT(e:List Nat):List Nat->Bool
 |[]=>tR e []
 |b::x=>tR e (b::x)||oT e x
def FZ(f:Nat):Bool:=match C.P.funcs[f]? with
 |some fn=>bH (Nat.beq fn.params.size 2) (fn.name== "bytes.Contains") false
 |none=>false
def xa:List y->Option (List Nat)
 |[]=>some []
 | .int .u8 (.ofNat n)::k=>bH (Nat.blt n 256) (match xa k with|some r=>some (n::r)|none=>none) none
 |_=>none
def sZ(h:M ak)(x:y):Option (List Nat):=match x with
 | .slice b W len _=>(match ix C h b W len with|some k=>xa k|none=>none)
 | .ej b W len _=>(match ix C h b W len with|some k=>xa k|none=>none)
 |_=>none
def Cp(h:M ak)(ca:List y):Option y:=match ca with
 |[.slice b W len cap,e]=>(match sZ C h (.slice b W len cap),sZ C h e with
  |some x,some t=>bH (Nat.ble len cap&&Nat.blt 0 len&&Nat.ble len 1048576&&Nat.blt 0 t.length&&Nat.ble t.length 1048576) (m3 (oT t x)) none
  |_,_=>none)
 |_=>none
def yU(fn:Fn)(fy args:List y):Option dZ:=
 match fn with
 | .func f=>rY C f (args++fy)
 | .yield k=>some (.round k args)
 |_=>none
def EF(h:M ak)(t:Nat)(v:y)(name:String)(args:List y):Option dZ:=
 match C.P.info? t with
 |some i=>(match i.methods.find? (·.name==name)with
  |some m=>bH m.path.isEmpty (match m.func,C.P.underlying t with
   |some (f,true),some (.pointer _)=>rY C f (v::args)
   |some (f,false),some (.pointer D)=>(match pB C h D v with|some x=>rY C f (x::args)|none=>none)
   |some (f,false),some _=>rY C f (v::args)
   |_,_=>none) none
  |none=>none)
 |none=>none
def NO(h:M ak)(j s:Nat)(E v:y):Option dZ:=
 match E with
 | .ptr b W=>bH (Nat.beq v.cells.length s&&Nat.blt 0 s) ((match rZ C h b W v.cells with|some R=>some (.fq undef R j)|none=>none))<|none
 |_=>none
def Fm(t:Nat)(m q x:Operand)(h:M ak)(j:Nat)(ax:Operand->Option y):Option dZ:=
 match ax m,ax q,ax x with
 |some m,some q,some v=>Hf C h j t m q v
 |_,_,_=>none
def Ia(_:Nat)(_ _:Operand)(_:M ak)(_:Nat)(_:Operand->Option y):Option dZ:=(λ_:aT=>none) C
def H2(_ _ _:Operand)(_:M ak)(_:Nat)(_:Operand->Option y):Option dZ:=(λ_:aT=>none) C
def H9(t:Nat)(k c:Operand)(h:M ak)(j:Nat)(ax:Operand->Option y):Option dZ:=
 match C.P.underlying t,ax k,ax c with
 |some (.slice d6),some k,some c=>(match ng k,ng c,C.P.info? d6,sT C d6 with
  |some k,some c,some i,some bo=>bH (Nat.ble k c&&Nat.ble c 1048576&&Nat.ble i.bytes 65536&&Nat.blt 0 i.size&&Nat.beq bo.cells.length i.size) (mQ C h j (.cells (M.ofList (kX c bo.cells) 0 .nil) (c*i.size) .own) λb=> .slice b 0 k c)<|none
  |_,_,_,_=>none)
 |_,_,_=>none
def H8(t:Nat)(r:Operand)(h:M ak)(j:Nat)(ax:Operand->Option y):Option dZ:=
 match C.P.underlying t,ax r with
 |some (.map _ _),some (.int _ _)=>mQ C h j (.map [] 0) λb=> .map b
 |_,_=>none
def Ic(s d:Nat)(x:Operand)(h:M ak)(j:Nat)(ax:Operand->Option y):Option dZ:=
 match C.P.underlying s,C.P.underlying d,ax x with
 |some .string,some (.slice D),some (.str k)=>(match C.P.underlying D with
  |some (.int .u8)=>sa C h j k.length 1 (k.map λn=>y.int .u8 (Int.ofNat n))
  |_=>none)
 |some (.slice _),some (.slice D),some (.slice b W len cap)=>(match C.P.underlying D with
  |some (.int .u8)=>bH (Nat.beq s d&&j5 C b) (match Z C h b with
   |some (.cells c n .own)=>jo (bl C h b (some (.cells c n .marked))) λh=>some (.fq (.slice b W len cap) h j)
   |some (.cells _ _ .marked)=>some (.val (.slice b W len cap))
   |_=>none) none
  |_=>none)
 |_,_,_=>none
def Ib(t:Nat)(x:Operand)(h:M ak)(j:Nat)(ax:Operand->Option y):Option dZ:=
 match C.P.underlying t,ax x with
 |some .string,some (.str s)=>mQ C h j (.ou s 0) λb=> .ptr b 0
 |some (.map _ _),some .ms=>mQ C h j (.ya none 0 [] 0) λb=> .ptr b 0
 |some (.map _ _),some (.map r)=>(match Z C h r with
  |some (.map _ fL)=>mQ C h j (.ya (some r) fL [] fL) λb=> .ptr b 0
  |_=>none)
 |_,_=>none
def sx(n:Nat):List Nat->Bool
 |[]=>false
 |E::k=>Nat.beq n E||sx n k
def vQ(ew:Operand)(x0:Bool)(h:M ak)(j:Nat)(ax:Operand->Option y):Option dZ:=
 match ax ew with
 |some (.ptr r 0)=>bH (j5 C r) (match Z C h r,x0 with
  |some (.ou s pos),true=>bH (Nat.blt pos s.length) (match rr s pos with
    |some c=>bH (Nat.blt c 128) (setObj C h j r (.ou s (pos+1)) (.tuple [.bool true, .int .i64 (Int.ofNat pos), .int .i32 (Int.ofNat c)])) none
    |none=>none)
   (some (.val (.tuple [.bool false])))
  |some (.ya none _ _ _),false=>some (.val (.tuple [.bool false]))
  |_,_=>none) none
 |_=>none
def QF(x:Operand)(_:M ak)(_:Nat)(ax:Operand->Option y):Option dZ:=
 match ax x with|some (.iface t v)=>some (.panic (.iface t v))|_=>none
def Qs(c:Call)(_:M ak)(_:Nat)(ax:Operand->Option y):Option dZ:=
 match c with
 |⟨.value f,args,_⟩=>(match ax f,pG ax args.toList with
  |some (.func fn first fy),some ca=>some (.defer ⟨.fn fn fy,first++ca⟩)
  |_,_=>none)
 |_=>none
def HX(b:Builtin)(args:Array Operand)(cX:Array TypeId)(h:M ak)(j:Nat)(ax:Operand->Option y):Option dZ:=
 match b,pG ax args.toList with
 | .append,some [s,x]=>(match cX.toList with
   |st::iq::_=>(match C.P.underlying iq with
    |some (.int _)=>(match ng x with|some n=>KD C h j st s n|none=>none)
    |some (.slice _)=>EE C h j st s x
    |some .string=>EE C h j st s x
    |_=>none)
   |_=>none)
 | .recover,some []=>some .recover
 |_,_=>none
def CS(c:Call)(h:M ak)(j:Nat)(ax:Operand->Option y):Option dZ:=
 match c with
 |⟨.value f,args,_⟩=>(match ax f,pG ax args.toList with
  |some (.func fn first fy),some ca=>yU C fn fy (first++ca)
  |_,_=>none)
 |⟨.builtin b,args,cX⟩=>HX C b args cX h j ax
 |⟨.invoke r name,args,_⟩=>(match ax r,pG ax args.toList with
  |some (.iface t v),some ca=>EF C h t v name ca
  |_,_=>none)
def nv(W:Op):aT->M ak->Nat->(Operand->Option y)->Option dZ:=
 match W with
 | .mapUpdate t m q x=>λC=>Fm C t m q x
 | .insert t m q x=>λC=>Fm C t m q x
 | .mapEntry t m q=>λC=>Ia C t m q
 | .entryStore _ m s x=>λC=>H2 C m s x
 | .makeSlice t k c=>λC=>H9 C t k c
 | .makeMap t (some r)=>λC=>H8 C t r
 | .convert s d x=>λC=>Ic C s d x
 | .range t x=>λC=>Ib C t x
 | .next ew x0=>λC=>vQ C ew x0
 | .panic x=>λ_=>QF x
 | .defer c=>λ_=>Qs c
 | .call c=>λC=>CS C c
 |_=>λ_ _ _ _=>none
end ar
def k9(x:kk):List (Nat×y)->M y->Option y:=
 match x with
 | .v Y=>λaq _=>ed aq Y
 | .t n=>λ_ I=>I.get n
 | .c E=>λ_ _=>some E
def Ae(aq:List (Nat×y))(I:M y):List kk->Option (List y)
 |[]=>some []
 |x::k=>match k9 x aq I with
  |none=>none
  |some v=>match Ae aq I k with
   |none=>none
   |some r=>some (v::r)
def jb(bV:List (Nat×Nat))(aq:List (Nat×y))(I:M y)(W:Operand):Option y:=match W with
 | .tmp t=>(match ed bV t with|some Y=>ed aq Y|none=>I.get t)
 | .const v=>DZ v
 | .global g=>some (.ptr g 0)
 | .func f=>some (.func (.func f) [] [])
def hJ(d:Nat)(v:y):Option y:=match v with| .ptr b W=>some (.ptr b (W+d))|_=>none
def N9(c:y)(E b:kk)(aq:List (Nat×y))(I:M y):Option y:=match c with
 | .bool c=>bH c (k9 E aq I) (k9 b aq I)
 |_=>none
def Kb(n aN:Nat)(x:y)(i:Nat):Option y:=match x with| .ptr b W=>bH (Nat.blt i n) (some (.ptr b (W+i*aN))) none|_=>none
def Cc(aN:Nat)(x:y)(i:Nat):Option y:=match x with
 | .slice b W len _=>bH (Nat.blt i len) (some (.ptr b (W+i*aN))) none
 | .ej b W len _=>bH (Nat.blt i len) (some (.ptr b (W+i*aN))) none
 |_=>none
def sS(v:y):Option y:=match v with
 | .ptr b W=>some (.ptr b W)
 | .func fn E b=>(match fn with| .func f=>some (.func (.func f) E b)| .yield f=>some (.func (.yield f) E b)|_=>none)
 | .iface t v=>some (.iface t v)
 |_=>none
def rD(i:Nat)(v:y):Option y:=match v with| .tuple bx=>rr bx i|_=>none
def gM(W:jM):aT->M ak->List (Nat×y)->M y->Option y:=
 match W with
 | .DP x=>λ_ _=>k9 x
 | .pick c E b=>λ_ _ aq I=>(match k9 c aq I with|some c=>N9 c E b aq I|none=>none)
 | .fm E=>λC h aq I=>(match k9 E aq I with|some E=>aV C h E|none=>none)
 | .wg n E=>λC h aq I=>(match k9 E aq I with|some E=>dT C h n E|none=>none)
 | .off d x=>λ_ _ aq I=>(match k9 x aq I with|some E=>hJ d E|none=>none)
 | .AY n aN x i=>λ_ _ aq I=>(match k9 x aq I with|some E=>(match k9 i aq I with|some i=>(match ng i with|some i=>Kb n aN E i|none=>none)|none=>none)|none=>none)
 | .AZ aN x i=>λ_ _ aq I=>(match k9 x aq I with|some E=>(match k9 i aq I with|some i=>(match ng i with|some i=>Cc aN E i|none=>none)|none=>none)|none=>none)
 | .DW x=>λ_ _ aq I=>(match k9 x aq I with|some E=>sS E|none=>none)
 | .I4 op x e=>λ_ _ aq I=>(match k9 x aq I with|some E=>(match k9 e aq I with|some b=>bg op E b|none=>none)|none=>none)
 | .ext i x=>λ_ _ aq I=>(match k9 x aq I with|some E=>rD i E|none=>none)
 | .h2 bV W=>λC h aq I=>nZ W C h (jb bV aq I)
 |_=>λ_ _ _ _=>none
def n6(W:jM):aT->Nat->List (Nat×y)->M y->Option (y×ak):=
 match W with
 | .make bV W=>λC b aq I=>qc W C (jb bV aq I) b
 |_=>λ_ _ _ _=>none
def hz(W:jM):aT->M ak->Nat->List (Nat×y)->M y->Option dZ:=
 match W with
 | .st n E v=>λC h j aq I=>(match k9 E aq I with|some E=>(match k9 v aq I with|some v=>NO C h j n E v|none=>none)|none=>none)
 | .call f args=>λC h _ aq I=>(match Ae aq I args with|some ca=>bH (FZ C f) (match Cp C h ca with|some v=>some (.known f ca v)|none=>none) (rY C f ca)|none=>none)
 | .e9 bV W=>λC h j aq I=>nv W C h j (jb bV aq I)
 |_=>λ_ _ _ _ _=>none
inductive ae6 where|h2|make|e9
def mN(W:jM):ae6:=match W with
 | .st .. => .e9| .call .. => .e9| .e9 .. => .e9
 | .make .. => .make
 |_=> .h2
def MV(W:jM)(C:aT)(h:M ak)(j:Nat)(aq:List (Nat×y))(I:M y):Option dZ:=
 qh j λj=>(match n6 W C j aq I with|some (v,cK)=>jo (bl C h j (some cK)) λh=>some (.fq v h (j+1))|none=>none)
def fi(m i:Nat):Bool:=Nat.beq (Nat.mod (Nat.div m (Nat.pow 2 i)) 2) 1
def mV(bV:List (Nat×Nat))(W:Operand):Option kk:=match W with
 | .tmp t=>(match ed bV t with|some Y=>some (.v Y)|none=>some (.t t))
 | .const v=>(match DZ v with|some E=>some (.c E)|none=>none)
 | .global g=>some (.c (.ptr g 0))
 | .func f=>some (.c (.func (.func f) [] []))
def GH(bV:List (Nat×Nat)):List Operand->Option (List kk)
 |[]=>some []
 |x::k=>match mV bV x,GH bV k with|some v,some r=>some (v::r)|_,_=>none
def aqt(C:aT)(s d:Nat):Bool:=match C.P.underlying s,C.P.underlying d with
 |some .string,some (.slice _)=>true
 |some (.slice _),some (.slice _)=>true
 |_,_=>false
def aqp(C:aT)(t:Nat):Bool:=match C.P.underlying t with|some (.int _)=>true|_=>false
def lN(C:aT)(bV:List (Nat×Nat))(W:Op):Option jM:=
 match W with
 | .move x| .assign x=>(match mV bV x with|some x=>some (.DP x)|none=>none)
 | .pick c E b=>(match mV bV c,mV bV E,mV bV b with|some c,some E,some b=>some (.pick c E b)|_,_,_=>none)
 | .load t E=>(match mV bV E,DB C t,ji C t with
   |some E,some true,some s=>some (.wg s E)
   |some E,some false,_=>some (.fm E)
   |_,_,_=>none)
 | .fieldAddr s x f=>(match C.P.underlying s,mV bV x with
   |some (.struct jT),some x=>(match rr jT.toList f with
    |some r5=>(match ji C r5.type with|some bo=>bH (Nat.beq bo 0) (none)<|some (.off r5.offset x)|none=>none)
    |none=>none)
   |_,_=>none)
 | .indexAddr t x i=>(match C.P.underlying t,mV bV x,mV bV i with
   |some (.array n d6),some x,some i=>(match ji C d6 with|some aN=>some (.AY n aN x i)|none=>none)
   |some (.slice d6),some x,some i=>(match ji C d6 with|some aN=>some (.AZ aN x i)|none=>none)
   |_,_,_=>none)
 | .nilCheck x=>(match mV bV x with|some x=>some (.DW x)|none=>none)
 | .binOp op t x e GP=>bH (aqp C t) ((match mV bV x,mV bV e with|some x,some e=>some (.I4 op x e)|_,_=>none))<|some (.h2 bV (.binOp op t x e GP))
 | .extract x i=>(match mV bV x with|some x=>some (.ext i x)|none=>none)
 | .store t E x=>(match mV bV E,mV bV x,ji C t with|some E,some x,some s=>some (.st s E x)|_,_,_=>none)
 | .call ⟨.value (.func f),args,cX⟩=>(match GH bV args.toList with|some ca=>some (.call f ca)|none=>none)
 | .call ⟨.builtin b,args,cX⟩=>(match b with
   | .len| .cap| .max| .min=>some (.h2 bV (.call ⟨.builtin b,args,cX⟩))
   |_=>some (.e9 bV (.call ⟨.builtin b,args,cX⟩)))
 | .call c=>some (.e9 bV (.call c))
 | .convert s d x=>bH (aqt C s d) (some (.e9 bV (.convert s d x)))<|some (.h2 bV (.convert s d x))
 | .alloc t=>some (.make bV (.alloc t))
 | .box t x=>some (.make bV (.box t x))
 | .buildSlice t k p=>some (.make bV (.buildSlice t k p))
 | .makeMap t none=>some (.make bV (.makeMap t none))
 | .makeMap t (some r)=>some (.e9 bV (.makeMap t (some r)))
 | .mapUpdate t m q x=>some (.e9 bV (.mapUpdate t m q x))
 | .insert t m q x=>some (.e9 bV (.insert t m q x))
 | .mapEntry t m q=>some (.e9 bV (.mapEntry t m q))
 | .entryStore t m s x=>some (.e9 bV (.entryStore t m s x))
 | .makeSlice t k c=>some (.e9 bV (.makeSlice t k c))
 | .range t x=>some (.e9 bV (.range t x))
 | .next i s=>some (.e9 bV (.next i s))
 | .panic x=>some (.e9 bV (.panic x))
 | .defer c=>some (.e9 bV (.defer c))
 |W=>some (.h2 bV W)
def vB(Y:Nat):List (Nat×Nat)->Option Nat
 |[]=>none
 |(t,i)::k=>bH (Nat.beq i Y) (some t)<|vB Y k
def Hs(wr:List (Nat×Nat))(g:Option (Nat×Bool)):Option (Option (Nat×Bool)):=match g with
 |none=>some none
 |some (Y,lH)=>(match vB Y wr with
  |some t=>(match ed wr t with
   |some lB=>bH (Nat.beq Y lB) (some (some (Y,lH)))<|none
   |none=>none)
  |none=>none)
def w0(W:Oper)(i:Nat)(wr:List (Nat×Nat)):List (Nat×Nat):=match W.dst with|some d=>(d,i)::wr|none=>wr
def K6(n:Nat)(W:Oper):Bool:=match W.dst with|some d=>Nat.blt d n|none=>true
def ye(C:aT)(ao:Nat)(bV:List (Nat×Nat))(W:Operand):Bool:=match W with
 | .tmp t=>(match ed bV t with|some _=>true|none=>fi ao t)
 | .global g=>Nat.blt g C.pg
 |_=>true
def D1(C:aT)(ao:Nat)(bV:List (Nat×Nat)):List Operand->Bool
 |[]=>true
 |x::k=>ye C ao bV x&&D1 C ao bV k
def r3(C:aT)(n ao:Nat):List Oper->Nat->List (Nat×Nat)->Option (List fd)
 |[],_,_=>some []
 |W::k,i,wr=>qh i λi=>match Hs wr W.guard,lN C wr W.op with
  |some g,some op=>bH (K6 n W&&D1 C ao wr W.op.operands.toList) (match r3 C n ao k (i+1) (w0 W i wr)with|some r=>some (⟨i,g,op⟩::r)|none=>none) none
  |_,_=>none
def lb(ao:Nat):List Oper->Nat->List (Nat×Nat)
 |[],_=>[]
 |W::k,i=>match W.dst with
  |some d=>bH (fi ao d) ((i,d)::lb ao k (i+1))<|lb ao k (i+1)
  |none=>lb ao k (i+1)
def dstsOf:List Oper->List Nat
 |[]=>[]
 |W::k=>match W.dst with|some d=>d::dstsOf k|none=>dstsOf k
structure Ou where
 rest:List fd
 fin:List (Nat×Nat)
def Jt(C:aT)(n:Nat)(ar:Array Oper)(ao:Nat):Option Ou:=
 match r3 C n ao ar.toList 0 []with
 |some cs=>some ⟨cs,lb ao ar.toList 0⟩
 |none=>none
def Gm(W:Operand)(m:Nat):Nat:=match W with| .tmp t=>Nat.lor m (Nat.pow 2 t)|_=>m
def Gn(k:List Operand):Nat:=k.foldr Gm 0
def HE(W:Oper):Nat:=match W.dst with|some d=>Nat.pow 2 d|none=>0
def LB(wr:List (Nat×Nat))(g:Option (Nat×Bool)):Nat:=match g with
 |none=>0
 |some (Y,_)=>(match vB Y wr with|some t=>Nat.pow 2 t|none=>0)
def CH(im:List (Nat×Nat))(D:Edge)(m:Nat):Nat:=
 bH (fi m D.on) (m)<|bH (Region.binds .any D) ((match ed im D.on with|some q=>Nat.lor (Nat.lor m q) (Nat.pow 2 D.on)|none=>m))<|m
structure f6 where
 i:Nat
 m:Nat
 r:Nat
 w:Nat
def Bn:List Oper->Nat->List (Nat×Nat)->List (Nat×Nat)->List f6
 |[],_,_,_=>[]
 |W::k,i,wr,im=>qh i λi=>qh (W.after.toList.foldr (CH im) 0) λm=>
  ⟨i,m,Nat.lor (Gn W.op.operands.toList) (LB wr W.guard),HE W⟩::Bn k (i+1) (w0 W i wr) ((i,m)::im)
def Ni(E b:f6):Bool:=
 fi b.m E.i||(Nat.beq (Nat.land E.w (Nat.lor b.r b.w)) 0&&Nat.beq (Nat.land b.w E.r) 0)
def Nk(E:f6):List f6->Bool
 |[]=>true
 |b::k=>Ni E b&&Nk E k
def JA:List f6->Bool
 |[]=>true
 |E::k=>Nk E k&&JA k
def Is:List f6->Bool
 |[]=>true
 |E::k=>(match k with|[]=>true|b::_=>fi b.m E.i)&&Is k
def D0:List Oper->Nat->Bool
 |[],_=>true
 |W::k,i=>W.after.toList.all (λD=> !Region.binds .any D||Nat.blt D.on i)&&D0 k (i+1)
def um(m:Nat):List f6->Nat
 |[]=>0
 |a::k=>bH (fi m a.i) (Nat.succ (um m k))<|um m k
def AD(i:Nat):List f6->Nat
 |[]=>0
 |a::k=>bH (fi a.m i) (0)<|Nat.succ (AD i k)
structure pz where
 x:fd
 bR:Nat
 aF:Nat
def nH(W:jM):Bool:=match mN W with| .e9=>true|_=>false
def Fu:List f6->List fd->List (f6×fd)
 |p::da,c::cs=>bH (nH c.op) ((p,c)::Fu da cs)<|Fu da cs
 |_,_=>[]
def F8(aE:List f6):List f6->List fd->List pz
 |p::da,c::cs=>bH (nH c.op) (F8 aE da cs)<|⟨c,um p.m aE,AD p.i aE⟩::F8 aE da cs
 |_,_=>[]
def s1(q:Nat):List pz->List fd
 |[]=>[]
 |k::ik=>bH (Nat.beq k.bR q) (k.x::s1 q ik)<|s1 q ik
def D9(q:Nat):List pz->List fd
 |[]=>[]
 |k::ik=>bH (Nat.blt k.bR q&&Nat.ble q k.aF&&BL k.x.op) (k.x::D9 q ik)<|D9 q ik
def yb(ik:List pz):Nat->List (f6×fd)->List vq
 |q,[]=>[⟨s1 q ik,D9 q ik,none⟩]
 |q,(_,af)::k=>⟨s1 q ik,D9 q ik,some af⟩::yb ik (q+1) k
def qi:List (f6×fd)->List f6
 |[]=>[]
 |(p,_)::k=>p::qi k
structure Ot where
 lo:List vq
 fin:List (Nat×Nat)
def Js(C:aT)(n:Nat)(ar:Array Oper)(ao:Nat):Option Ot:=
 match r3 C n ao ar.toList 0 []with
 |none=>none
 |some cs=>(λall=>(λaE=>bH (D0 ar.toList 0&&JA all&&Is (qi aE)) (some ⟨yb (F8 (qi aE) all cs) 0 aE,lb ao ar.toList 0⟩)<|none) (Fu all cs)) (Bn ar.toList 0 [] [])
def Xf:List Oper->Nat->Nat->Nat
 |[],_,r=>r
 |W::k,WQ,r=>Xf k (Nat.lor WQ (HE W)) ((λrd=>Nat.lor r (Nat.xor rd (Nat.land rd WQ))) (Gn W.op.operands.toList))
def kc:Code->Nat
 | .region _ ar _=>Xf ar.toList 0 0
 | .seq E b=>Nat.lor (kc E) (kc b)
 | .cond c E b=>Gm c (Nat.lor (kc E) (kc b))
 | .block _ b=>kc b
 | .loop b=>kc b
 | .scope b=>kc b
 | .rangeFunc f _ E b=>Gm f (Nat.lor (kc E) (kc b))
 |_=>0
def nM(k:List ResultVar):Nat:=k.foldr (λx r=>match x with| .tmp t=>Nat.lor r (Nat.pow 2 t)| .cell E _=>Nat.lor r (Nat.pow 2 E)) 0
def lO(C:aT)(ao:Nat):Code->Bool
 | .seq E b=>lO C ao E&&lO C ao b
 | .cond c E b=>ye C ao [] c&&(lO C ao E&&lO C ao b)
 | .block _ b=>lO C ao b
 | .loop b=>lO C ao b
 | .scope b=>lO C ao b
 | .rangeFunc f _ E b=>ye C ao [] f&&(lO C ao E&&lO C ao b)
 |_=>true
def yk(ao:Nat):List ResultVar->Bool
 |[]=>true
 | .tmp t::k=>fi ao t&&yk ao k
 | .cell E _::k=>fi ao E&&yk ao k
end
end Go.bs
@[match_pattern]abbrev Go.bs.y.Z(x:Int):Go.bs.y:=.int .i64 x
@[match_pattern]abbrev Go.bs.y.zF:Go.bs.y:=.bool false
@[match_pattern]abbrev Go.bs.y.zT:Go.bs.y:=.bool true
namespace Go.bs
@[simp] def eW{α:Type _}(E b:α):bH true E b=E:=rfl
@[simp] def kp{α:Type _}(E b:α):bH false E b=b:=rfl
def eQ{α:Type _}(c:Bool)(E b:α):bH c E b=if c=true then E else b:=by cases c<;>rfl
def hn{α:Type _}(x e:Nat)(E b:α):bH (Nat.beq x e) E b=if x=e then E else b:=by
 rw[eQ];by_cases a:x=e
 ·rw[Zu a,Zu (Nat.beq_eq▸a)]
 ·rw[Zg a,Zg (λD=>a (Zl D))]
@[simp] def eF{α:Type _}(c:Bool)(E:Option α)(v:α):bH c E none=some v↔c=true/\E=some v:=by cases c<;>simp
@[simp] def lT{eH:Type}(n:Nat)(q:Nat->eH):qh n q=q n:=by cases n<;>rfl
@[simp] def E5{eH:Type}(n:Int)(q:Int->eH):P1 n q=q n:=by
  cases n with
  |ofNat m=>exact lT m λm=>q (.ofNat m)
  |negSucc m=>exact lT m λm=>q (.negSucc m)
@[simp] def g5{α eH:Type}(t:M α)(q:M α->eH):jo t q=q t:=by cases t<;>rfl
@[simp] def ai3{α:Type}(Y:Nat):ed ([]:List (Nat×α)) Y=none:=rfl
def qW{α:Type}(E:Nat)(b:α)(k:List (Nat×α))(Y:Nat):ed ((E,b)::k) Y=if E=Y then some b else ed k Y:=by
 show bH (Nat.beq E Y) (some b) (ed k Y)=_
 rw[hn]
@[simp] def rs{α:Type}(k:List α):∀i,rr k i=k[i]? :=by
  induction k with
  |nil=>intro i;rfl
  |cons E k aj=>intro i;cases i with
   |zero=>rfl
   |succ Y=>exact aj Y
namespace M
variable{α:Type}
@[simp] def awV(i:Nat):(M.nil:M α).get i=none:=rfl
@[simp] def awW(v:Option α)(k r:M α):(M.node v k r).get 0=v:=rfl
def Am(v:Option α)(k r:M α)(Y:Nat):(M.node v k r).get (Y+1)=if Y%2=0 then k.get (Y/2)else r.get (Y/2):=by
 show bH (Nat.beq (Y%2) 0) (k.get (Y/2)) (r.get (Y/2))=_
 rw[hn]
def auB(f:Nat)(E:Option α):rA (f+1) M.nil 0 E= .node E .nil .nil:=rfl
def auA(f Y:Nat)(E:Option α):rA (f+1) M.nil (Y+1) E=
 if Y%2=0 then .node none (rA f .nil (Y/2) E) .nil else .node none .nil (rA f .nil (Y/2) E):=by
 show bH (Nat.beq (Y%2) 0) (jo (rA f .nil (Y/2) E) λcb=>M.node none cb M.nil) (jo (rA f .nil (Y/2) E) λhH=>M.node none M.nil hH)=_
 rw[hn,g5,g5]
def auD(f:Nat)(v:Option α)(k r:M α)(E:Option α):rA (f+1) (.node v k r) 0 E= .node E k r:=rfl
def auC(f Y:Nat)(v:Option α)(k r:M α)(E:Option α):rA (f+1) (.node v k r) (Y+1) E=
 if Y%2=0 then .node v (rA f k (Y/2) E) r else .node v k (rA f r (Y/2) E):=by
 show bH (Nat.beq (Y%2) 0) (jo (rA f k (Y/2) E) λcb=>M.node v cb r) (jo (rA f r (Y/2) E) λhH=>M.node v k hH)=_
 rw[hn,g5,g5]
def al8:∀(f:Nat) (t:M α) (i Y:Nat) (E:Option α),i<f->(rA f t i E).get Y=if i=Y then E else t.get Y:=by
 intro f
 induction f with
 |zero=>intro t i Y E a;omega
 |succ f aj=>
  intro t i Y E a
  cases i with
  |zero=>
   cases t with
   |nil=>rw[auB];cases Y with
    |zero=>simp
    |succ Y=>rw[Am];simp
   |node v k r=>rw[auD];cases Y with
    |zero=>simp
    |succ Y=>rw[Am,Am];simp
  |succ i=>
   have aF:i/2<f:=Zo
   cases t with
   |nil=>
    rw[auA]
    cases Y with
    |zero=>split<;>simp
    |succ Y=>
     by_cases D:i%2=0
     ·rw[Zu D,Am]
      by_cases ig:Y%2=0
      ·rw[Zu ig,aj _ _ _ _ aF]
       by_cases ai:i/2=Y/2
       ·rw[Zu ai,Zu Zo]
       ·rw[Zg ai,Zg Zo];rfl
      ·rw[Zg ig,Zg Zo];rfl
     ·rw[Zg D,Am]
      by_cases ig:Y%2=0
      ·rw[Zu ig,Zg Zo];rfl
      ·rw[Zg ig,aj _ _ _ _ aF]
       by_cases ai:i/2=Y/2
       ·rw[Zu ai,Zu Zo]
       ·rw[Zg ai,Zg Zo];rfl
   |node v k r=>
    rw[auC]
    cases Y with
    |zero=>split<;>simp
    |succ Y=>
     rw[Am v k r]
     by_cases D:i%2=0
     ·rw[Zu D,Am]
      by_cases ig:Y%2=0
      ·rw[Zu ig,Zu ig,aj _ _ _ _ aF]
       by_cases ai:i/2=Y/2
       ·rw[Zu ai,Zu Zo]
       ·rw[Zg ai,Zg Zo]
      ·rw[Zg ig,Zg ig,Zg Zo]
     ·rw[Zg D,Am]
      by_cases ig:Y%2=0
      ·rw[Zu ig,Zu ig,Zg Zo]
      ·rw[Zg ig,Zg ig,aj _ _ _ _ aF]
       by_cases ai:i/2=Y/2
       ·rw[Zu ai,Zu Zo]
       ·rw[Zg ai,Zg Zo]
def j7(t:M α)(i Y:Nat)(E:Option α):(t.set i E).get Y=if i=Y then E else t.get Y:=al8 _ _ _ _ _ Zo
def HS(k:List α):∀(i:Nat) (t:M α) (Y:Nat),(ofList k i t).get Y=if i<=Y/\Y<i+k.length then k[Y-i]? else t.get Y:=by
 induction k with
 |nil=>intro i t Y;simp only[ofList,ZY];rw[Zg Zo]
 |cons E k aj=>
  intro i t Y
  simp only[ofList,g5]
  rw[aj,j7]
  by_cases D:i=Y
  ·subst D;rw[Zg Zo,Zu rfl,Zu Zs];simp
  ·rw[Zg D]
   by_cases ai:i+1<=Y/\Y<i+1+k.length
   ·rw[Zu ai,Zu Zx]
    have:Y-i=(Y-(i+1))+1:=Zo
    rw[this,Z1]
   ·rw[Zg ai,Zg Zx]
def Lt(t:M α):∀(n W:Nat) (k:List α),t.ks W n=some k->k.length=n/\∀i,i<n->t.get (W+i)=k[i]? :=by
 intro n
 induction n with
 |zero=>intro W k a;simp[ks]at a;subst a;simp
 |succ n aj=>
  intro W k a
  simp only[ks]at a
  cases bw:t.get W with
  |none=>simp[bw]at a
  |some E=>
   simp only[bw]at a
   cases V:ks t (W+1) n with
   |none=>simp[V]at a
   |some r=>
    simp only[V,Zc]at a
    subst a
    obtain⟨H,K⟩:=aj _ _ V
    refine⟨by simp[H],λi aF=> ?_⟩
    cases i with
    |zero=>simpa using bw
    |succ i=>rw[show W+(i+1)=W+1+i by omega,K i Zo];simp
end M
def N5(k:List y):∀(c:M y) (W:Nat),d3 c W k=M.ofList k W c:=by
 induction k with
 |nil=>intro c W;rfl
 |cons v k aj=>intro c W;simp only[d3,M.ofList,g5];exact aj _ _
structure mz where
 cA:Nat
 dQ:Nat
 room:Nat
 deriving Inhabited
abbrev cU:=Nat->mz
def m4(J:cU):Fn->Fn
 | .yield k=> .yield (J k).cA
 |f=>f
def bytesOf(s:List Nat):ByteArray:=⟨(s.map UInt8.ofNat).toArray⟩
mutual
def aO(J:cU):y->Value
 | .bool b=> .bool b
 | .int q n=> .int q n
 | .str s=> .string (bytesOf s)
 | .ptr b W=> .pointer (some ⟨(J b).cA,(J b).dQ+W,none⟩)
 | .cN=> .pointer none
 | .slice b W len cap=> .slice (some ⟨(J b).cA,(J b).dQ+W,none⟩) len cap
 | .ej b W len aN=> .slice (some ⟨(J b).cA,(J b).dQ+W,none⟩) len (((J b).room-W)/aN)
 | .aW=> .slice none 0 0
 | .map m=> .map (some (J m).cA)
 | .ms=> .map none
 | .func fn E b=> .func (m4 J fn) (bO J E).toArray (bO J b).toArray
 | .nilFunc=> .nilFunc
 | .iface t v=> .iface t (aO J v)
 | .nilIface=> .nilIface
 | .agg cs=> .agg (bO J cs).toArray
 | .tuple bx=> .tuple (bO J bx).toArray
 | .wA b k aN=> .slice (some ⟨(J b).cA,(J b).dQ+(if (J b).room/aN=k then 0 else k*aN),none⟩) 0 ((J b).room/aN-k)
def bO(J:cU):List y->List Value
 |[]=>[]
 |v::k=>aO J v::bO J k
end
def pD(J:cU)(k:List y):bO J k=k.map (aO J):=by
 induction k with
 |nil=>rfl
 |cons v k aj=>simp[bO,aj]
def Lv(aa:Nat->Prop):Fn->Prop
 | .yield k=>aa k
 | .func _=>True
 |_=>False
mutual
def b7(aa:Nat->Prop):y->Prop
 | .bool _=>True
 | .int _ _=>True
 | .str s=>∀x∈s,x<256
 | .ptr b _=>aa b
 | .cN=>True
 | .slice b _ _ _=>aa b
 | .ej b _ _ _=>aa b
 | .aW=>True
 | .map m=>aa m
 | .ms=>True
 | .func fn E b=>Lv aa fn/\ea aa E/\ea aa b
 | .nilFunc=>True
 | .iface _ v=>b7 aa v
 | .nilIface=>True
 | .agg cs=>ea aa cs
 | .tuple bx=>ea aa bx
 | .wA b _ _=>aa b
def ea(aa:Nat->Prop):List y->Prop
 |[]=>True
 |v::k=>b7 aa v/\ea aa k
end
def ur(aa:Nat->Prop)(k:List y):ea aa k↔∀v∈k,b7 aa v:=by
 induction k with
 |nil=>simp[ea]
 |cons v k aj=>simp[ea,aj]
mutual
def Pr{J ir:cU}{aa:Nat->Prop}(a:∀b,aa b->J b=ir b):∀v,b7 aa v->aO J v=aO ir v
 | .bool _,_=>rfl
 | .int _ _,_=>rfl
 | .str _,_=>rfl
 | .ptr b W,g=>by simp only[aO,a b g]
 | .cN,_=>rfl
 | .slice b W k c,g=>by simp only[aO,a b g]
 | .ej b W k c,g=>by simp only[aO,a b g]
 | .aW,_=>rfl
 | .map m,g=>by simp only[aO,a m g]
 | .ms,_=>rfl
 | .func fn E b,g=>by
   obtain⟨g1,b5,cR⟩:=g
   have D:m4 J fn=m4 ir fn:=by
    cases fn<;>simp only[m4]
    rw[a _ g1]
   simp only[aO,D,ET a E b5,ET a b cR]
 | .nilFunc,_=>rfl
 | .iface t v,g=>by simp only[aO,Pr a v g]
 | .nilIface,_=>rfl
 | .agg cs,g=>by simp only[aO,ET a cs g]
 | .tuple bx,g=>by simp only[aO,ET a bx g]
 | .wA b k c,g=>by simp only[aO,a b g]
def ET{J ir:cU}{aa:Nat->Prop}(a:∀b,aa b->J b=ir b):∀k,ea aa k->bO J k=bO ir k
 |[],_=>rfl
 |v::k,g=>by simp only[bO,Pr a v g.1,ET a k g.2]
end
mutual
def oP{aa db:Nat->Prop}(a:∀b,aa b->db b):∀v,b7 aa v->b7 db v
 | .bool _,_=>trivial
 | .int _ _,_=>trivial
 | .str _,g=>g
 | .ptr b _,g=>a b g
 | .cN,_=>trivial
 | .slice b _ _ _,g=>a b g
 | .ej b _ _ _,g=>a b g
 | .aW,_=>trivial
 | .map m,g=>a m g
 | .ms,_=>trivial
 | .func fn E b,g=>⟨by cases fn<;>first|exact a _ g.1|exact g.1,q2 a E g.2.1,q2 a b g.2.2⟩
 | .nilFunc,_=>trivial
 | .iface _ v,g=>oP a v g
 | .nilIface,_=>trivial
 | .agg cs,g=>q2 a cs g
 | .tuple bx,g=>q2 a bx g
 | .wA b _ _,g=>a b g
def q2{aa db:Nat->Prop}(a:∀b,aa b->db b):∀k,ea aa k->ea db k
 |[],_=>trivial
 |v::k,g=>⟨oP a v g.1,q2 a k g.2⟩
end
end Go.bs

