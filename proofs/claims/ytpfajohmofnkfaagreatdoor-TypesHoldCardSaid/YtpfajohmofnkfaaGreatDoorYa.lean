/- A part of the last text's proof; no condition of its own -/
import GoSem.Step
import Derived.Below
import Derived.ChangeKeysEq
import Derived.Laws.IdiomCopy
import Derived.Laws.Unary
import Derived.Laws.Wrap64
import Derived.Laws.StructEq
set_option maxHeartbeats 8000000
set_option linter.all false
namespace Go
def Zo{p:Prop}(h:p:=by omega):p:=h
def Za{p q:Prop}(a:p)(b:q):p/\q:=⟨a,b⟩
def Zd{p:Prop}(h:p:=by decide):p:=h
def Zs{p:Prop}(h:p:=by simp):p:=h
def Zk{p:Prop}(h:p:=by kernel_rfl):p:=h
def Zb:type_of%@decide_eq_false_iff_not:=@decide_eq_false_iff_not
def Zc:type_of%@List.getElem?_eq_some_iff:=@List.getElem?_eq_some_iff
def Ze:type_of%@List.getElem?_eq_getElem:=@List.getElem?_eq_getElem
def Zf:type_of%@Option.some.injEq:=@Option.some.injEq
def Zg:type_of%@decide_eq_true_eq:=@decide_eq_true_eq
def Zh:type_of%@if_neg:=@if_neg
def Zi:type_of%@List.length_map:=@List.length_map
def Zj:type_of%@Nat.eq_of_beq_eq_true:=@Nat.eq_of_beq_eq_true
def Zl:type_of%@Nat.le_refl:=@Nat.le_refl
def Zn:type_of%@List.mem_of_getElem?:=@List.mem_of_getElem?
def Zp:type_of%@Bool.and_eq_true:=@Bool.and_eq_true
def Zq:type_of%@List.mem_cons:=@List.mem_cons
def Zr:type_of%@if_pos:=@if_pos
def Zt:type_of%@List.getElem?_map:=@List.getElem?_map
def Zu:type_of%@List.mem_cons_of_mem:=@List.mem_cons_of_mem
def Zv:type_of%@List.mem_cons_self:=@List.mem_cons_self
def Zw:type_of%@List.drop_eq_getElem_cons:=@List.drop_eq_getElem_cons
def Zx:type_of%@Bool.false_eq_true:=@Bool.false_eq_true
def Zy:type_of%@List.mem_append:=@List.mem_append
def Zz:type_of%@Nat.le_trans:=@Nat.le_trans
def ZA:type_of%@if_false:=@if_false
def ZB:type_of%@List.take_of_length_le:=@List.take_of_length_le
def ZC:type_of%@List.length_cons:=@List.length_cons
def ZD:type_of%@if_true:=@if_true
def ZE:type_of%@Option.bind_some:=@Option.bind_some
def ZF:type_of%@not_false_eq_true:=@not_false_eq_true
def ZG:type_of%@List.not_mem_nil:=@List.not_mem_nil
def ZH:type_of%@List.drop_eq_nil_of_le:=@List.drop_eq_nil_of_le
def ZI:type_of%@List.getElem?_cons_succ:=@List.getElem?_cons_succ
def ZJ:type_of%@List.mem_map:=@List.mem_map
def ZK:type_of%@Array.getElem?_eq_some_iff:=@Array.getElem?_eq_some_iff
def ZL:type_of%@Nat.lt_of_lt_of_le:=@Nat.lt_of_lt_of_le
def ZM:type_of%@Array.getElem?_toList:=@Array.getElem?_toList
def ZN:type_of%@Nat.add_assoc:=@Nat.add_assoc
def ZO:type_of%@List.length_append:=@List.length_append
def ZP:type_of%@Nat.zero_add:=@Nat.zero_add
def ZQ:type_of%@List.length_nil:=@List.length_nil
def ZR:type_of%@List.map_cons:=@List.map_cons
def ZS:type_of%@List.getElem?_cons_zero:=@List.getElem?_cons_zero
def ZT:type_of%@Nat.add_zero:=@Nat.add_zero
def ZU:type_of%@List.getElem?_eq_none:=@List.getElem?_eq_none
def ZV:type_of%@Option.map_some:=@Option.map_some
def ZW:type_of%@List.getElem?_append_right:=@List.getElem?_append_right
def ZX:type_of%@Option.bind_eq_some_iff:=@Option.bind_eq_some_iff
def ZY:type_of%@List.mem_iff_getElem?:=@List.mem_iff_getElem?
def ZZ:type_of%@List.drop_zero:=@List.drop_zero
def Z0:type_of%@List.take_add_one:=@List.take_add_one
def Z1:type_of%@Option.isSome_none:=@Option.isSome_none
def Z2:type_of%@List.take_succ_cons:=@List.take_succ_cons
def Z3:type_of%@Option.isSome_some:=@Option.isSome_some
def Z4:type_of%@List.getElem?_append_left:=@List.getElem?_append_left
def Z5:type_of%@List.drop_succ_cons:=@List.drop_succ_cons
def Z6:type_of%@List.take_zero:=@List.take_zero
def Z7:type_of%@List.set_cons_zero:=@List.set_cons_zero
def Z8:type_of%@List.set_cons_succ:=@List.set_cons_succ
def Z9:type_of%@decide_false:=@decide_false
def Ya:type_of%@Nat.add_mul:=@Nat.add_mul
def Yb:type_of%@Nat.le_succ:=@Nat.le_succ
def Yc:type_of%@List.eq_nil_of_length_eq_zero:=@List.eq_nil_of_length_eq_zero
def Yd:type_of%@Bool.and_self:=@Bool.and_self
def Ye:type_of%@and_true:=@and_true
def Yf:type_of%@Bool.eq_iff_iff:=@Bool.eq_iff_iff
def Yg:type_of%@Bool.not_false:=@Bool.not_false
def Yh:type_of%@Nat.mul_one:=@Nat.mul_one
def Yi:type_of%@Bool.not_true:=@Bool.not_true
def Yj:type_of%@decide_eq_false:=@decide_eq_false
def Yk:type_of%@beq_self_eq_true:=@beq_self_eq_true
def Yl:type_of%@Int.eq_ofNat_of_zero_le:=@Int.eq_ofNat_of_zero_le
def Ym:type_of%@Option.bind_assoc:=@Option.bind_assoc
def Yn:type_of%@Option.map_eq_some_iff:=@Option.map_eq_some_iff
def Yo:type_of%@decide_true:=@decide_true
def Yp:type_of%@List.flatten_cons:=@List.flatten_cons
def Yq:type_of%@Nat.lt_succ_self:=@Nat.lt_succ_self
def Yr:type_of%@or_false:=@or_false
def Ys:type_of%@List.size_toArray:=@List.size_toArray
def Yt:type_of%@Bool.and_true:=@Bool.and_true
def Yu:type_of%@decide_eq_true:=@decide_eq_true
def Yv:type_of%@Option.some.inj:=@Option.some.inj
def Yw:type_of%@List.map_append:=@List.map_append
def Yx:type_of%@List.append_nil:=@List.append_nil
def Yy:type_of%@Option.getD_some:=@Option.getD_some
def Yz:type_of%@List.length_drop:=@List.length_drop
def YA:type_of%@List.map_map:=@List.map_map
def YB:type_of%@Array.getElem?_append_left:=@Array.getElem?_append_left
def YC:type_of%@List.map_congr_left:=@List.map_congr_left
def YD:type_of%@List.takeWhile_cons:=@List.takeWhile_cons
def YE:type_of%@List.foldl_cons:=@List.foldl_cons
def YF:type_of%@Nat.mod_eq_of_lt:=@Nat.mod_eq_of_lt
def YG:type_of%@List.getElem?_drop:=@List.getElem?_drop
def YH:type_of%@List.set_nil:=@List.set_nil
def YI:type_of%@List.cons.injEq:=@List.cons.injEq
def YJ:type_of%@List.mem_filter:=@List.mem_filter
def YK:type_of%@List.nil_append:=@List.nil_append
def YL:type_of%@List.length_pos_iff:=@List.length_pos_iff
def YM:type_of%@List.pairwise_iff_getElem:=@List.pairwise_iff_getElem
def YN:type_of%@List.ext_getElem?:=@List.ext_getElem?
def YO:type_of%@Int.emod_eq_of_lt:=@Int.emod_eq_of_lt
def YP:type_of%@Array.size_append:=@Array.size_append
def YQ:type_of%@Nat.lt_trichotomy:=@Nat.lt_trichotomy
def YR:type_of%@List.flatMap_cons:=@List.flatMap_cons
def YS:type_of%@List.getElem?_take_of_lt:=@List.getElem?_take_of_lt
def YT:type_of%@Prod.mk.injEq:=@Prod.mk.injEq
def YU:type_of%@not_or:=@not_or
def YV:type_of%@Nat.le_mul_of_pos_right:=@Nat.le_mul_of_pos_right
def YW:type_of%@List.length_take:=@List.length_take
def YX:type_of%@List.take_length:=@List.take_length
def YY:type_of%@Array.ext':=@Array.ext'
def YZ:type_of%@beq_iff_eq:=@beq_iff_eq
def Y0:type_of%@Option.map_none:=@Option.map_none
def Y1:type_of%@Array.getElem?_modify:=@Array.getElem?_modify
def Y2:type_of%@Nat.le_div_iff_mul_le:=@Nat.le_div_iff_mul_le
def Y3:type_of%@Array.mem_of_getElem?:=@Array.mem_of_getElem?
def Y4:type_of%@List.mapM_cons:=@List.mapM_cons
def Y5:type_of%@List.mem_of_mem_drop:=@List.mem_of_mem_drop
def Y6:type_of%@List.mem_of_mem_take:=@List.mem_of_mem_take
def Y7:type_of%@Nat.le_of_eq:=@Nat.le_of_eq
def Y8:type_of%@Nat.beq_refl:=@Nat.beq_refl
def Y9:type_of%@Nat.lt_or_ge:=@Nat.lt_or_ge
def za:type_of%@Nat.sub_zero:=@Nat.sub_zero
def zb:type_of%@Nat.le_add_right:=@Nat.le_add_right
def zc:type_of%@List.flatten_append:=@List.flatten_append
def zd:type_of%@true_and:=@true_and
def ze:type_of%@and_self:=@and_self
def zf:type_of%@Bool.or_eq_true:=@Bool.or_eq_true
def zg:type_of%@List.find?_cons:=@List.find?_cons
def zh:type_of%@List.find?_eq_none:=@List.find?_eq_none
def zi:type_of%@List.drop_drop:=@List.drop_drop
def zj:type_of%@Nat.le_of_lt:=@Nat.le_of_lt
def zk:type_of%@Nat.zero_mul:=@Nat.zero_mul
def zl:type_of%@Nat.not_lt:=@Nat.not_lt
def zm:type_of%@Nat.zero_le:=@Nat.zero_le
def zn:type_of%@Nat.mul_comm:=@Nat.mul_comm
def zo{p q:Prop}(a:q)(h:q->p:=by intro h;omega):p:=h a
def zp(a b:Nat)(h:b<=a:=by omega):decide ((a:Int)<(b:Int))=false:=decide_eq_false (by omega)
def zq(a b:Nat)(h:a<b:=by omega):decide ((a:Int)<(b:Int))=true:=decide_eq_true (by omega)
def zr{α:Type}(l:List α)(i:Nat)(h:i<l.length:=by omega):∃x,l[i]? =some x:=⟨_,List.getElem?_eq_getElem h⟩
end Go
namespace Go.bk
noncomputable section
inductive V(α:Type) where
 |nil
 |node (v:Option α) (l r:V α)
 deriving Inhabited
universe ae
def bV{α:Type ae}(c:Bool)(t I:α):α:=Bool.rec (motive:=λ_=>α) I t c
def V.get{α:Type}(t:V α):Nat->Option α:=
 V.rec (motive:=λ_=>Nat->Option α) (λ_=>none)
  (λv _ _ iI qq i=>Nat.rec (motive:=λ_=>Option α) v (λaa _=>bV (Nat.beq (Nat.mod aa 2) 0) (iI (Nat.div aa 2)) (qq (Nat.div aa 2))) i) t
def jo{α eP:Type}(t:V α)(F:V α->eP):eP:=
 V.rec (motive:=λ_=>eP) (F .nil) (λv l r _ _=>F (.node v l r)) t
def V.rI{α:Type}(f:Nat):V α->Nat->Option α->V α:=
 Nat.rec (motive:=λ_=>V α->Nat->Option α->V α) (λt _ _=>t)
  (λ_ am t i K=>V.rec (motive:=λ_=>V α)
   (Nat.rec (motive:=λ_=>V α) (.node K .nil .nil) (λaa _=>bV (Nat.beq (Nat.mod aa 2) 0)
    (jo (am .nil (Nat.div aa 2) K) λci=> .node none ci .nil) (jo (am .nil (Nat.div aa 2) K) λhW=> .node none .nil hW)) i)
   (λv l r _ _=>Nat.rec (motive:=λ_=>V α) (.node K l r) (λaa _=>bV (Nat.beq (Nat.mod aa 2) 0)
    (jo (am l (Nat.div aa 2) K) λci=> .node v ci r) (jo (am r (Nat.div aa 2) K) λhW=> .node v l hW)) i) t) f
def qn{eP:Type}(n:Nat)(F:Nat->eP):eP:=Nat.rec (motive:=λ_=>eP) (F 0) (λm _=>F (Nat.succ m)) n
def P9{eP:Type}(n:Int)(F:Int->eP):eP:=
 Int.rec (motive:=λ_=>eP) (λm=>qn m λm=>F (.ofNat m)) (λm=>qn m λm=>F (.negSucc m)) n
def ez{α:Type}(l:List (Nat×α)):Nat->Option α:=
 List.rec (motive:=λ_=>Nat->Option α) (λ_=>none) (λp _ am aa=>Prod.rec (motive:=λ_=>Option α) (λK b=>bV (Nat.beq K aa) (some b) (am aa)) p) l
def V.set{α:Type}(t:V α)(i:Nat)(K:Option α):V α:=V.rI (i+1) t i K
def V.ofList{α:Type}:List α->Nat->V α->V α
 |[],_,t=>t
 |K::l,i,t=>jo (t.set i (some K)) λhr=>ofList l (i+1) hr
def V.kE{α:Type}(t:V α):Nat->Nat->Option (List α)
 |_,0=>some []
 |Y,n+1=>match t.get Y with
  |none=>none
  |some K=>match kE t (Y+1) n with
   |none=>none
   |some l=>some (K::l)
def rG{α:Type}(l:List α):Nat->Option α:=
 List.rec (motive:=λ_=>Nat->Option α) (λ_=>none) (λK _ am i=>Nat.rec (motive:=λ_=>Option α) (some K) (λaa _=>am aa) i) l
inductive J where
 |bool (b:Bool)
 |int (F:IntKind) (n:Int)
 |str (s:List Nat)
 |ptr (b Y:Nat)
 |cy
 |slice (b Y len cap:Nat)
 |fm (b Y len br:Nat)
 |aU
 |map (m:Nat)
 |l2
 |func (fn:Fn) (first fO:List J)
 |nilFunc
 |iface (t:Nat) (v:J)
 |nilIface
 |agg (cs:List J)
 |tuple (bj:List J)
 deriving Inhabited
def J.cells:J->List J
 | .agg cs=>cs
 |v=>[v]
def undef:J:= .tuple []
def BP{α eP:Type}(f:α->Option eP):List α->Option (List eP)
 |[]=>some []
 |K::l=>match f K with
  |none=>none
  |some b=>match BP f l with
   |none=>none
   |some r=>some (b::r)
def BV:Nat->Value->Option J
 |0,_=>none
 |n+1,v=>match v with
  | .bool b=>some (.bool b)
  | .int F n=>some (.int F n)
  | .string s=>some (.str (s.data.toList.map (·.toNat)))
  | .pointer none=>some .cy
  | .slice none 0 0=>some .aU
  | .map none=>some .l2
  | .func (.func f) ⟨[]⟩ ⟨[]⟩=>some (.func (.func f) [] [])
  | .nilFunc=>some .nilFunc
  | .iface t v=>match BV n v with|some K=>some (.iface t K)|none=>none
  | .nilIface=>some .nilIface
  | .agg cs=>match BP (BV n) cs.toList with|some l=>some (.agg l)|none=>none
  | .tuple cs=>match BP (BV n) cs.toList with|some l=>some (.tuple l)|none=>none
  |_=>none
def D0(v:Value):Option J:=BV 20 v
inductive OD where
 |fn (fn:Fn) (fO:List J)
 |collected (r:Nat)
structure hN where
 target:OD
 args:List J
inductive nW where
 |own|marked|grow (fz:List Nat)|j6
 deriving Inhabited
inductive an where
 |cells (c:V J) (size:Nat) (st:nW)
 |map (b7:List (J×J×Nat)) (fh:Nat)
 |look (b7:List (J×J))
 |ox (s:List Nat) (pos:Nat)
 |y8 (m:Option Nat) (vZ:Nat) (seen:List Nat) (aeU:Nat)
 |GI (m vZ n:Nat) (cD:List Nat) (st:Nat) (nv:Option Nat)
 |loop (state:LoopState) (pending:Option Code) (fn:Nat) (n av:Nat) (M:V J) (params:List Nat) (assign body:Code) (defers:Nat)
 |deferred (pK:Option (List hN))
structure a2 where
 P:Program
 G:V an
 ba:Nat
 hf:Nat->List J->Option J
 nL:Nat
def ab(C:a2)(h:V an)(b:Nat):Option an:=
 bV (Nat.blt b C.ba) (C.G.get b) (h.get (Nat.sub b C.ba))
def bo(C:a2)(h:V an)(b:Nat)(Y:Option an):V an:=h.set (Nat.sub b C.ba) Y
def kD(C:a2)(b:Nat):Bool:=Nat.ble C.ba b
structure rS where
 v:J
 recovered:Bool
inductive kT where
 |run|returning|panicking (chain:List rS)
inductive kp where
 |v (aa:Nat)
 |t (n:Nat)
 |c (K:J)
inductive jM where
 |DQ (x:kp)
 |pick (c K b:kp)
 |f0 (K:kp)
 |BK (n:Nat) (K:kp)
 |off (d:Nat) (x:kp)
 |BC (n br:Nat) (x i:kp)
 |BD (br:Nat) (x i:kp)
 |DW (x:kp)
 |JG (op:BinOp) (x e:kp)
 |ext (i:Nat) (x:kp)
 |st (n:Nat) (K v:kp)
 |call (f:Nat) (args:List kp)
 |ia (b3:List (Nat×Nat)) (Y:Op)
 |make (b3:List (Nat×Nat)) (Y:Op)
 |fs (b3:List (Nat×Nat)) (Y:Op)
structure fx where
 i:Nat
 g:Option (Nat×Bool)
 op:jM
structure wI where
 t6:List fx
 Tj:List fx
 fs:Option fx
inductive d0 where
 |code (c:Code)
 |inBlock (id:Nat)
 |inLoop (body:Code)
 |inScope (body:Code)
 |Hb (ax:Array Oper) (aw:List (Nat×J)) (rest:List fx) (fin:List (Nat×Nat))
 |drawn (ax:Array Oper) (base:Nat) (aw:List (Nat×J)) (li:List wI) (fin:List (Nat×Nat))
 |s6 (ax:Array Oper) (aw:List (Nat×J)) (a:Nat) (rest:List fx) (fin:List (Nat×Nat))
 |As (ax:Array Oper) (base:Nat) (aw:List (Nat×J)) (a:Nat) (li:List wI) (fin:List (Nat×Nat))
 |inRangeFunc (l:Nat)
 |endRangeFunc (l:Nat)
 |beginRound
structure gN where
 fn:Nat
 n:Nat
 av:Nat
 M:V J
 todo:List d0
 defers:List hN
 mode:kT
 deferred:Bool
 roundOf:Option Nat
section ax
variable(C:a2)
def ji(t:Nat):Option Nat:=match C.P.info? t with|some i=>some i.size|none=>none
def s8(t:Nat):Option J:=match C.P.info? t with|some i=>(match i.zero with|some v=>D0 v|none=>none)|none=>none
def DA(t:Nat):Option Bool:=match C.P.underlying t with
 |some (.struct _)=>some true|some (.array _ _)=>some true|some _=>some false|none=>none
def lD:List J->Nat->List J->List J
 |cs,_,[]=>cs
 |cs,Y,v::l=>lD (cs.set Y v) (Y+1) l
def AY(G1:Nat->Option (Nat×Nat)):List J->List (Nat×J)->Option (List J)
 |cells,[]=>some cells
 |cells,(i,v)::rest=>match G1 i with
  |none=>none
  |some (off,size)=>
   bV (Nat.beq v.cells.length size&&Nat.ble (off+size) cells.length) (AY G1 (lD cells off v.cells) rest)<|none
def kP:Nat->List J->List J
 |0,_=>[]
 |n+1,bu=>bu++kP n bu
def yr(ay:Operand->Option J):List (Nat×Operand)->Option (List (Nat×J))
 |[]=>some []
 |(i,x)::l=>match ay x,yr ay l with|some v,some r=>some ((i,v)::r)|_,_=>none
def pO(ay:Operand->Option J):List Operand->Option (List J)
 |[]=>some []
 |x::l=>match ay x,pO ay l with|some v,some r=>some (v::r)|_,_=>none
def TN(jS:List Field)(i:Nat):Option (Nat×Nat):=
 match rG jS i with
 |some f=>(match ji C f.type with|some s=>some (f.offset,s)|none=>none)
 |none=>none
def NH:List Field->Bool
 |[]=>true
 |f::l=>(match ji C f.type with|some _=>true|none=>false)&&NH l
def K6(t:Nat)(j4:List (Nat×J)):Option J:=
 match s8 C t with
 |none=>none
 |some bu=>match C.P.underlying t with
  |some (.struct jS)=>bV (NH C jS.toList) (match AY (TN C jS.toList) bu.cells j4 with|some cs=>some (.agg cs)|none=>none) none
  |some (.array _ ep)=>(match ji C ep with
   |some s=>(match AY (λi=>some (i*s,s)) bu.cells j4 with|some cs=>some (.agg cs)|none=>none)
   |none=>none)
  |_=>none
def Cx(t:Nat)(cs:List J)(off:Nat):Option J:=
 match DA C t,ji C t with
 |some true,some s=>some (.agg ((cs.drop off).take s))
 |some false,_=>rG cs off
 |_,_=>none
def mS:List Nat->List Nat->Bool
 |[],[]=>true
 |K::x,b::e=>Nat.beq K b&&mS x e
 |_,_=>false
def BS:List Nat->List Nat->Bool
 |_,[]=>false
 |[],_::_=>true
 |K::x,b::e=>Nat.blt K b||(Nat.beq K b&&BS x e)
def GZ(h:V an)(b Y:Nat):Bool:=match ab C h b with
 |some (.cells _ n .own)=>kD C b&&Nat.blt Y n
 |_=>false
def BN(h:V an)(b Y:Nat):Bool:=match ab C h b with
 |some (.cells _ _ .j6)=>false
 |some (.cells _ n _)=>Nat.blt Y n
 |_=>false
def ptrEq(h:V an)(b Y dN o':Nat):Option Bool:=
 bV (Nat.beq b dN) (some (Nat.beq Y o')) (bV (GZ C h b Y&&BN C h dN o'||GZ C h dN o'&&BN C h b Y) (some false) none)
def Cw(eq:Nat->J->J->Option Bool):List Field->List J->List J->Option Bool
 |[],_,_=>some true
 |f::jC,cp,nT=>
  bV (f.name== "_") none<|
  match Cx C f.type cp f.offset,Cx C f.type nT f.offset with
  |some K,some b=>(match eq f.type K b with
   |some true=>Cw eq jC cp nT
   |some false=>some false
   |none=>none)
  |_,_=>none
def mq(F fa:IntKind):Bool:=match F,fa with
 | .i8, .i8=>true| .i16, .i16=>true| .i32, .i32=>true| .i64, .i64=>true
 | .u8, .u8=>true| .u16, .u16=>true| .u32, .u32=>true| .u64, .u64=>true
 |_,_=>false
def E0(K b:Bool):Bool:=match K,b with|true,true=>true|false,false=>true|_,_=>false
def xw(x e:Int):Bool:=match x,e with
 | .ofNat K, .ofNat b=>Nat.beq K b
 | .negSucc K, .negSucc b=>Nat.beq K b
 |_,_=>false
def y2(x e:Int):Bool:=match x,e with
 | .ofNat K, .ofNat b=>Nat.blt K b
 | .negSucc K, .negSucc b=>Nat.blt b K
 | .negSucc _, .ofNat _=>true
 | .ofNat _, .negSucc _=>false
def ks(h:V an):Nat->Nat->J->J->Option Bool
 |0,_,_,_=>none
 |d+1,t,x,e=>
  match C.P.underlying t,x,e with
  |some .bool, .bool K, .bool b=>some (E0 K b)
  |some (.int _), .int F K, .int fa b=>bV (mq F fa) (some (xw K b)) none
  |some .string, .str K, .str b=>some (mS K b)
  |some (.pointer _), .cy, .cy=>some true
  |some (.pointer _), .cy, .ptr _ _=>some false
  |some (.pointer _), .ptr _ _, .cy=>some false
  |some (.pointer I), .ptr b Y, .ptr dN o'=>
   (
    match ji C I with
    |some s=>bV (Nat.beq s 0) none (ptrEq C h b Y dN o')
    |none=>none)
  |some (.interface _), .nilIface, .nilIface=>some true
  |some (.interface _), .nilIface, .iface _ _=>some false
  |some (.interface _), .iface _ _, .nilIface=>some false
  |some (.interface _), .iface KE Oo, .iface ty Oq=>bV (Nat.beq KE ty) (match C.P.info? KE with
   |some i=>bV i.comparable (ks h d KE Oo Oq) none
   |none=>none) (some false)
  |some (.slice _), .aU, .aU=>some true
  |some (.slice _), .aU, .slice .. =>some false
  |some (.slice _), .aU, .fm .. =>some false
  |some (.slice _), .slice .., .aU=>some false
  |some (.slice _), .fm .., .aU=>some false
  |some (.map _ _), .l2, .l2=>some true
  |some (.map _ _), .l2, .map _=>some false
  |some (.map _ _), .map _, .l2=>some false
  |some (.func _ _ _), .nilFunc, .nilFunc=>some true
  |some (.func _ _ _), .nilFunc, .func .. =>some false
  |some (.func _ _ _), .func .., .nilFunc=>some false
  |some (.struct jS), .agg cp, .agg nT=>bV (C.P.stoodInHeld t) none (Cw C (ks h d) jS.toList cp nT)
  |_,_,_=>none
def pA(F:IntKind)(n:Int):Int:=
 match F with
 | .i64=>(λm:Int=>bV (decide (m<9223372036854775808)) m (m-18446744073709551616)) (n%18446744073709551616)
 | .u64=>n%18446744073709551616
 | .u8=>n%256
 |F=>F.wrap n
def p3(F:IntKind)(n:Int):Option J:=P9 n λn=>some (.int F n)
def k9(F:IntKind)(n:Int):Option J:=P9 (pA F n) λn=>some (.int F n)
def n3(b:Bool):Option J:=bV b (some (.bool true)) (some (.bool false))
def lJ(op:BinOp):IntKind->Int->Int->Option J:=
 match op with
 | .add=>λF x e=>k9 F (x+e)
 | .sub=>λF x e=>k9 F (x-e)
 | .mul=>λF x e=>k9 F (x*e)
 | .quo=>λF x e=>bV (xw e 0) none (k9 F (x.tdiv e))
 | .rem=>λF x e=>bV (xw e 0) none (p3 F (x.tmod e))
 | .and=>λF x e=>k9 F ((BitVec.ofInt F.bits x&&& BitVec.ofInt F.bits e).toNat)
 | .or=>λF x e=>k9 F ((BitVec.ofInt F.bits x|||BitVec.ofInt F.bits e).toNat)
 | .xor=>λF x e=>k9 F ((BitVec.ofInt F.bits x^^^BitVec.ofInt F.bits e).toNat)
 | .andNot=>λF x e=>k9 F ((BitVec.ofInt F.bits x&&& ~~~ BitVec.ofInt F.bits e).toNat)
 | .eql=>λ_ x e=>n3 (xw x e)
 | .neq=>λ_ x e=>n3 (!xw x e)
 | .lss=>λ_ x e=>n3 (y2 x e)
 | .leq=>λ_ x e=>n3 (!y2 e x)
 | .gtr=>λ_ x e=>n3 (y2 e x)
 | .geq=>λ_ x e=>n3 (!y2 x e)
 |_=>λ_ _ _=>none
def HL(op:BinOp)(F:IntKind)(x e:Int):Option J:=
 bV (y2 e 0) none
 (match op with
 | .shl=>k9 F (x*2^(min e.toNat F.bits))
 | .shr=>p3 F (x.fdiv (2^(min e.toNat F.bits)))
 |_=>none)
def l0(op:BinOp):Bool:=match op with| .shl| .shr=>true|_=>false
def AK(op:BinOp)(x e:List Nat):Option J:=
 match op with
 | .add=>bV (Nat.ble (x.length+e.length) 1000000000) (some (.str (x++e)))<|none
 | .eql=>n3 (mS x e)
 | .neq=>n3 (!mS x e)
 | .lss=>n3 (BS x e)
 | .leq=>n3 (BS x e||mS x e)
 | .gtr=>n3 (!(BS x e||mS x e))
 | .geq=>n3 (!BS x e)
 |_=>none
def aC(op:BinOp)(x e:J):Option J:=
 match x,e with
 | .int F K, .int fa b=>bV (l0 op) (HL op F K b) (bV (mq F fa) (lJ op F K b) none)
 |_,_=>none
def Fj(t:Nat)(to:Bool)(x e:J):Bool:=match x,e with
 | .nilIface, .nilIface=>to||(match C.P.underlying t with|some (.interface iz)=>iz.isEmpty|_=>false)
 | .agg _, .agg _=> !C.P.eqGuardType C.P.depth t
 |_,_=>true
def dc(h:V an)(op:BinOp)(t:Nat)(to:Bool)(x e:J):Option J:=
 match x,e with
 | .int F K, .int fa b=>aC op (.int F K) (.int fa b)
 | .str K, .str b=>AK op K b
 |x,e=>bV (Fj C t to x e) (match op with
  | .eql=>(match ks C h 50 t x e with|some b=>n3 b|none=>none)
  | .neq=>(match ks C h 50 t x e with|some b=>n3 (!b)|none=>none)
  |_=>none) none
def fe(op:UnOp)(x:J):Option J:=
 match op,x with
 | .neg, .int F n=>lJ .sub F 0 n
 | .xor, .int F n=>lJ .xor F (if F.signed then -1 else F.max) n
 | .not, .bool b=>n3 (!b)
 |_,_=>none
def O8(axt dst:Nat)(x:J):Option J:=
 match C.P.underlying axt,C.P.underlying dst,x with
 |some _,some (.int F), .int _ n=>k9 F n
 |some _,some .string, .str s=>some (.str s)
 |_,_,_=>none
def nc(v:J):Option Nat:=match v with| .int _ n=>(match n with| .ofNat n=>some n|_=>none)|_=>none
def pg(Y:Option J)(m d:Nat):Option Nat:=match Y with
 |some v=>(match nc v with|some n=>bV (Nat.ble n m) (some n)<|none|none=>none)
 |none=>some d
def mb(len cap:Nat)(bU aN he:Option J):Option (Nat×Nat×Nat):=
 match pg he cap cap with
 |none=>none
 |some m=>match (match aN,he with
   |none,some _=>none
   |aN,_=>pg aN m len)with
  |none=>none
  |some a=>match pg bU a 0 with
   |none=>none
   |some l=>some (l,a,m)
def B0(ay:Operand->Option J):Option Operand->Option (Option J)
 |none=>some none
 |some x=>match ay x with|some v=>some (some v)|none=>none
def xP(h:V an)(b:Nat):Option Nat:=match ab C h b with|some (.cells _ n (.grow _))=>some n|some (.cells _ n .j6)=>some n|_=>none
def Lc(h:V an)(t:Nat)(x:J)(bU aN he:Option J):Option J:=
 match C.P.underlying t,x with
 |some .string, .str s=>(match he with
  |some _=>none
  |none=>(match mb s.length s.length bU aN none with
   |some (l,a,_)=>some (.str ((s.drop l).take (a-l)))
   |none=>none))
 |some (.slice ep), .slice b Y len cap=>(match mb len cap bU aN he,ji C ep with
  |some (l,a,m),some br=>some (.slice b (bV (Nat.beq m l) (Y)<|Y+l*br) (a-l) (m-l))
  |_,_=>none)
 |some (.slice ep), .aU=>(match mb 0 0 bU aN he,ji C ep with
  |some _,some _=>some .aU
  |_,_=>none)
 |some (.slice ep), .fm b Y len br=>(match ji C ep,xP C h b with
  |some xR,some n=>bV (Nat.beq br xR&&Nat.blt 0 br) ((match mb len ((n-Y)/br) bU aN he with
    |some (l,a,m)=>(match he with
     |some _=>some (.slice b (bV (Nat.beq m l) (Y)<|Y+l*br) (a-l) (m-l))
     |none=>bV (Nat.blt l ((n-Y)/br)||Nat.beq l 0) (some (.fm b (Y+l*br) (a-l) br))<|none)
    |none=>none))<|none
  |_,_=>none)
 |some (.array n ep), .ptr b Y=>(match mb n n bU aN he,ji C ep with
  |some (l,a,m),some br=>some (.slice b (bV (Nat.beq m l) (Y)<|Y+l*br) (a-l) (m-l))
  |_,_=>none)
 |_,_=>none
def K9(t:Nat)(x i:J):Option J:=
 match nc i with
 |none=>none
 |some i=>match C.P.underlying t,x with
  |some (.array n ep), .agg cs=>(match ji C ep with|some br=>bV (Nat.blt i n) (Cx C ep cs (i*br))<|none|none=>none)
  |some .string, .str s=>(match rG s i with|some c=>some (.int .u8 (Int.ofNat c))|none=>none)
  |_,_=>none
def cellsOf(h:V an)(b:Nat):Option (V J):=match ab C h b with
 |some (.cells c _ _)=>some c
 |_=>none
def al(h:V an)(K:J):Option J:=
 match K with
 | .ptr b Y=>(match cellsOf C h b with
   |some c=>c.get Y
   |none=>none)
 |_=>none
def bM(h:V an)(n:Nat)(K:J):Option J:=
 match K with
 | .ptr b Y=>(match cellsOf C h b with
   |some c=>(match c.kE Y n with|some l=>some (.agg l)|none=>none)
   |none=>none)
 |_=>none
def lK(h:V an)(t:Nat)(K:J):Option J:=
 match DA C t,ji C t with
 |some true,some s=>bM C h s K
 |some false,_=>al C h K
 |_,_=>none
def m1:Nat->Nat->J->Bool
 |0,_,_=>false
 |n+1,t,v=>match C.P.underlying t,v with
  |some (.interface _), .iface d x=>(match C.P.info? d with|some i=>i.comparable&&m1 n d x|none=>false)
  |some (.interface _), .nilIface=>true
  |some (.interface _),_=>false
  |some (.struct jS), .agg cs=>jS.toList.all λf=>f.name== "_"||(match Cx C f.type cs f.offset with|some p=>m1 n f.type p|none=>false)
  |some (.struct _),_=>false
  |some (.array _ _),_=>false
  |some _,_=>true
  |none,_=>false
def nJ:Nat->J->J->Bool
 |0,_,_=>false
 |n+1,x,e=>match x,e with
  | .bool K, .bool b=>E0 K b
  | .int F K, .int fa b=>mq F fa&&xw K b
  | .str K, .str b=>mS K b
  | .ptr b Y, .ptr dN o'=>Nat.beq b dN&&Nat.beq Y o'
  | .cy, .cy=>true
  | .nilIface, .nilIface=>true
  | .iface t v, .iface hr g7=>Nat.beq t hr&&nJ n v g7
  | .agg K, .agg b=>BJ n K b
  |_,_=>false
 where
 BJ (n:Nat):List J->List J->Bool
 |[],[]=>true
 |x::K,e::b=>nJ n x e&&BJ n K b
 |_,_=>false
def findKey(h:V an)(t:Nat)(F:J):List (J×J×Nat)->Nat->Option (Option (Nat×J))
 |[],_=>some none
 |(fa,v,_)::b7,i=>match ks C h 20 t F fa with
  |some true=>some (some (i,v))
  |some false=>findKey h t F b7 (i+1)
  |none=>none
def pk(h:V an)(t:Nat)(F:J):List (J×J)->Option (Option J)
 |[]=>some none
 |(fa,v)::b7=>match pk h t F b7,ks C h 20 t F fa with
  |some r,some false=>some r
  |some none,some true=>some (some v)
  |_,_=>none
def GF(r:Option (Option J)):Option (Option (Nat×J)):=match r with
 |some (some v)=>some (some (0,v))
 |some none=>some none
 |none=>none
def Lb(h:V an)(t:Nat)(m F:J)(ok:Bool):Option J:=
 match C.P.underlying t with
 |some (.map jH AV)=>
  (match (match m with
   | .l2=>bV (m1 C 20 jH F) (some none) none
   | .map r=>(match ab C h r with|some (.map b7 _)=>bV (m1 C 20 jH F) (findKey C h jH F b7 0) none|some (.look b7)=>bV (m1 C 20 jH F) (GF (pk C h jH F b7)) none|_=>none)
   |_=>none)with
  |none=>none
  |some none=>(match s8 C AV with|some bu=>some (bV (ok) (.tuple [bu, .bool false])<|bu)|none=>none)
  |some (some (_,v))=>some (bV (ok) (.tuple [v, .bool true])<|v))
 |_=>none
def La(h:V an)(t:Nat)(x:J):Option J:=
 match C.P.underlying t,x with
 |some .string, .str s=>p3 .i64 (Int.ofNat s.length)
 |some (.array n _),_=>some (.int .i64 (Int.ofNat n))
 |some (.pointer cq),_=>(match C.P.underlying cq with|some (.array n _)=>some (.int .i64 (Int.ofNat n))|_=>none)
 |some (.slice _), .slice _ _ n _=>p3 .i64 (Int.ofNat n)
 |some (.slice _), .fm _ _ n _=>p3 .i64 (Int.ofNat n)
 |some (.slice _), .aU=>some (.int .i64 0)
 |some (.map _ _), .l2=>some (.int .i64 0)
 |some (.map _ _), .map r=>(match ab C h r with|some (.map b7 _)=>p3 .i64 (Int.ofNat b7.length)|_=>none)
 |_,_=>none
def K7(t:Nat)(x:J):Option J:=
 match C.P.underlying t,x with
 |some (.slice _), .slice _ _ _ n=>p3 .i64 (Int.ofNat n)
 |some (.slice _), .aU=>some (.int .i64 0)
 |_,_=>none
def oM(he:Bool):J->List J->Option J
 |v,[]=>some v
 | .int F x, .int _ e::l=>oM he (.int F (bV (he) ((bV (y2 x e) (e)<|x))<|(bV (y2 e x) (e)<|x))) l
 |_,_=>none
def yi:List J->Option (List Nat)
 |[]=>some []
 | .int .u8 (.ofNat n)::l=>(match yi l with|some r=>some (n%256::r)|none=>none)
 |_=>none
def m3(h:V an)(b Y n:Nat):Option (List J):=
 match cellsOf C h b with
 |some c=>c.kE Y n
 |none=>bV (Nat.beq n 0) (some []) none
def EO(h:V an)(x:J):Option J:=
 match x with
 | .aU=>some (.str [])
 | .slice b Y len _=>(match m3 C h b Y len with|some l=>(match yi l with|some s=>some (.str s)|none=>none)|none=>none)
 | .fm b Y len _=>(match m3 C h b Y len with|some l=>(match yi l with|some s=>some (.str s)|none=>none)|none=>none)
 |_=>none
def Sv(t:Nat)(j4:Array (Nat×Operand))(_:V an)(ay:Operand->Option J):Option J:=
 match yr ay j4.toList with|some du=>K6 C t du|none=>none
def qH(Y:Operand):Bool:=match Y with| .const _=>true|_=>false
def Nl(op:BinOp)(t:Nat)(x e:Operand)(h:V an)(ay:Operand->Option J):Option J:=
 match ay x,ay e with|some K,some b=>dc C h op t (qH x||qH e) K b|_,_=>none
def SD(op:UnOp)(x:Operand)(_:V an)(ay:Operand->Option J):Option J:=
 match ay x with|some K=>fe op K|none=>none
def JW(s d:Nat)(x:Operand)(h:V an)(ay:Operand->Option J):Option J:=
 match ay x with
 |some K=>(match O8 C s d K with
  |some v=>some v
  |none=>(match C.P.underlying s,C.P.underlying d with
   |some (.slice I),some .string=>(match C.P.underlying I with|some (.int .u8)=>EO C h K|_=>none)
   |_,_=>none))
 |none=>none
def JY(t:Nat)(x:Operand)(_:V an)(ay:Operand->Option J):Option J:=
 match C.P.underlying t,ay x with
 |some (.interface _),_=>none
 |some _,some v=>some (.iface t v)
 |_,_=>none
def Sz(fn:Fn)(first fO:Array Operand)(_:V an)(ay:Operand->Option J):Option J:=
 match pO ay first.toList,pO ay fO.toList with
 |some K,some b=>(match fn with| .func f=>some (.func (.func f) K b)|_=>none)
 |_,_=>none
def SC(t:Nat)(x:Operand)(bU aN he:Option Operand)(h:V an)(ay:Operand->Option J):Option J:=
 match ay x,B0 ay bU,B0 ay aN,B0 ay he with
 |some v,some l,some a,some m=>Lc C h t v l a m
 |_,_,_,_=>none
def JX(t:Nat)(x:Operand)(f:Nat)(_:V an)(ay:Operand->Option J):Option J:=
 match C.P.underlying t,ay x with
 |some (.struct jS),some (.agg cs)=>(match rG jS.toList f with
  |some se=>Cx C se.type cs se.offset
  |none=>none)
 |_,_=>none
def SA(t:Nat)(x i:Operand)(_:V an)(ay:Operand->Option J):Option J:=
 match ay x,ay i with|some K,some b=>K9 C t K b|_,_=>none
def SB(t:Nat)(m F:Operand)(ok:Bool)(h:V an)(ay:Operand->Option J):Option J:=
 match ay m,ay F with|some K,some b=>Lb C h t K b ok|_,_=>none
def JV(x:Operand)(uw:Nat)(ok:Bool)(_:V an)(ay:Operand->Option J):Option J:=
 match C.P.underlying uw,ay x with
 |some (.interface _),_=>none
 |some _,some .nilIface=>bV (ok) ((match s8 C uw with|some bu=>some (.tuple [bu, .bool false])|none=>none))<|none
 |some _,some (.iface t v)=>bV (Nat.beq t uw) (some (bV (ok) (.tuple [v, .bool true])<|v))<|bV (ok) ((match s8 C uw with|some bu=>some (.tuple [bu, .bool false])|none=>none))<|none
 |_,_=>none
def Sw(b:Builtin)(args:Array Operand)(dm:Array TypeId)(h:V an)(ay:Operand->Option J):Option J:=
 match b,pO ay args.toList with
 | .len,some [x]=>(match dm.toList with|t::_=>La C h t x|_=>none)
 | .cap,some [x]=>(match dm.toList with|t::_=>K7 C t x|_=>none)
 | .max,some (x::l)=>oM true x l
 | .min,some (x::l)=>oM false x l
 |_,_=>none
def Sx(c:Call)(h:V an)(ay:Operand->Option J):Option J:=
 match c with
 |⟨.builtin b,args,dm⟩=>Sw C b args dm h ay
 |_=>none
def ac1:List Nat->Option Nat
 |[]=>none
 |K::l=>match l with|[]=>some K|_=>ac1 l
def Sy(_:Operand)(_:V an)(_:Operand->Option J):Option J:=(λ_:a2=>none) C
def nY(Y:Op):a2->V an->(Operand->Option J)->Option J:=
 match Y with
 | .build t j4=>λC=>Sv C t j4
 | .binOp op t x e _=>λC=>Nl C op t x e
 | .unOp op _ x=>λ_=>SD op x
 | .convert s d x=>λC=>JW C s d x
 | .makeInterface t x=>λC=>JY C t x
 | .makeFunc fn first fO=>λ_=>Sz fn first fO
 | .slice t x bU aN he=>λC=>SC C t x bU aN he
 | .field t x f=>λC=>JX C t x f
 | .index t x i=>λC=>SA C t x i
 | .lookup t m F ok=>λC=>SB C t m F ok
 | .typeAssert x _ uw ok=>λC=>JV C x uw ok
 | .entry eT=>λC=>Sy C eT
 | .call c=>λC=>Sx C c
 |_=>λ_ _ _=>none
def Ca(c:jM):Bool:=match c with
 | .f0 _| .BK _ _=>true
 | .ia _ Y=>(match Y with
   | .lookup .. | .convert .. | .slice .. | .call _| .binOp .. | .entry _=>true
   |_=>false)
 |_=>false
def DN(t:Nat)(_:Operand->Option J)(b:Nat):Option (J×an):=
 match s8 C t with|some bu=>some (.ptr b 0, .cells (V.ofList bu.cells 0 .nil) bu.cells.length .own)|none=>none
def J1(x:Operand)(ay:Operand->Option J)(b:Nat):Option (J×an):=
 match ay x with|some v=>some (.ptr b 0, .cells (V.ofList v.cells 0 .nil) v.cells.length .own)|none=>none
def J2(t len:Nat)(j4:Array (Nat×Operand))(ay:Operand->Option J)(b:Nat):Option (J×an):=
 match C.P.underlying t,yr ay j4.toList with
 |some (.slice ep),some du=>(match ji C ep,s8 C ep with
  |some s,some bu=>bV (Nat.ble (len*s) 16777216&&Nat.beq bu.cells.length s) ((match AY (λi=>some (i*s,s)) (kP len bu.cells) du with
    |some cs=>some (.slice b 0 len len, .cells (V.ofList cs 0 .nil) cs.length .own)
    |none=>none))<|none
  |_,_=>none)
 |_,_=>none
def qh(Y:Op):a2->(Operand->Option J)->Nat->Option (J×an):=
 match Y with
 | .alloc t=>λC=>DN C t
 | .box _ x=>λ_=>J1 x
 | .buildSlice t len j4=>λC=>J2 C t len j4
 | .makeMap _ none=>λ_ _ b=>some (.map b, .map [] 0)
 |_=>λ_ _ _=>none
def p4:List Nat->V an->V an
 |[],a=>a
 |b::l,a=>p4 l (bo C a b none)
def d3:V J->Nat->List J->V J
 |c,_,[]=>c
 |c,Y,v::l=>jo (c.set Y (some v)) λc=>d3 c (Y+1) l
def p7(v:J):Bool:=match v with| .agg _=>false| .tuple _=>false|_=>true
def jI:List J->Bool
 |[]=>true
 |v::l=>p7 v&&jI l
def wJ(h:V an)(b Y:Nat)(bj:List J):Option (V an):=
 match ab C h b with
 |some (.cells c n st)=>bV (Nat.ble (Y+bj.length) n&&kD C b&&jI bj) ((match st with
   | .own=>jo (d3 c Y bj) λc=>jo (bo C h b (some (.cells c n .own))) λh=>some h
   | .marked=>jo (d3 c Y bj) λc=>jo (bo C h b (some (.cells c n .marked))) λh=>some h
   | .grow fz=>jo (d3 c Y bj) λc=>jo (bo C (p4 C fz h) b (some (.cells c n (.grow [])))) λh=>some h
   |_=>none))<|none
 |_=>none
def lh(h:V an)(br:Nat)(x:J):Option (Nat×List J):=
 match x with
 | .aU=>some (0,[])
 | .slice b Y len _=>(match m3 C h b Y (len*br)with|some l=>some (len,l)|none=>none)
 | .fm b Y len _=>(match m3 C h b Y (len*br)with|some l=>some (len,l)|none=>none)
 | .str s=>bV (Nat.beq br 1) (some (s.length,s.map λn=>J.int .u8 (Int.ofNat n))) none
 |_=>none
inductive eg where
 |val (v:J)
 |fE (v:J) (h:V an) (j:Nat)
 |enter (f:Nat) (args:List J)
 |known (f:Nat) (args:List J) (v:J)
 |round (l:Nat) (args:List J)
 |defer (d:hN)
 |recover
 |panic (v:J)
 |fork (l:List (J×V an))
def nd(C:a2)(h:V an)(j:Nat)(Y:an)(F:Nat->J):Option eg:=
 qn j λj=>jo (bo C h j (some Y)) λh=>some (.fE (F j) h (j+1))
def tz(h:V an)(j n br:Nat)(l:List J):Option eg:=
 bV (Nat.ble n 1048576) (nd C h j (.cells (V.ofList l 0 .nil) l.length (.grow [])) λb=> .fm b 0 n br)<|none
def HN(h:V an)(j:Nat)(b Y len br n:Nat)(l:List J):Option eg:=
 match ab C h b with
 |some (
   .cells c size (.grow fz))=>bV (kD C b)
  (bV (
   Nat.ble (Y+(len+n)*br) size)
   (match wJ C h b (Y+len*br) l with|some U=>some (.fE (.fm b Y (len+n) br) U j)|none=>none)
   (bV (Nat.ble (len+n) 1048576&&jI l) (bV (Nat.beq (Y+len*br) size&&Nat.beq Y 0)
    (jo (d3 c size l) λf9=>nd C (bo C h b (some (.cells c size .j6))) j (.cells f9 (size+l.length) (.grow (b::fz))) λdN=> .fm dN 0 (len+n) br)
    (match c.kE Y (len*br)with
    |some fY=>nd C (bo C (p4 C fz h) b none) j (.cells (V.ofList (fY++l) 0 .nil) (fY++l).length (.grow [])) λdN=> .fm dN 0 (len+n) br
    |none=>none)) none)) none
 |_=>none
def yd(h:V an)(j:Nat)(br n:Nat)(l:List J)(s:J):Option eg:=
 match s with
 | .aU=>tz C h j n br l
 | .slice b Y len cap=>bV (Nat.ble (len+n) cap) ((match wJ C h b (Y+len*br) l with|some U=>some (.fE (.slice b Y (len+n) cap) U j)|none=>none))<|(match m3 C h b Y (len*br)with
    |some fY=>tz C h j (len+n) br (fY++l)
    |none=>none)
 | .fm b Y len xR=>bV (Nat.beq xR br) (HN C h j b Y len br n l)<|none
 |_=>none
def ER(h:V an)(br:Nat)(s:J):Option eg:=
 match s with
 | .aU=>some (.val .aU)
 | .slice b Y len cap=>bV (Nat.ble len cap) (some (.val (.slice b Y len cap))) none
 | .fm b Y len xR=>bV (Nat.beq xR br) (match xP C h b with
   |some n=>bV (Nat.ble (Y+len*br) n) (some (.val (.fm b Y len xR))) none
   |none=>none) none
 |_=>none
def K8(h:V an)(j:Nat)(st:Nat)(s:J)(n:Nat):Option eg:=
 match C.P.underlying st with
 |some (.slice ep)=>(match C.P.info? ep,s8 C ep with
  |some i,some bu=>bV (Nat.blt 0 i.size&&Nat.ble i.bytes 65536&&Nat.beq bu.cells.length i.size&&Nat.ble n 1048576) (bV (Nat.beq n 0) (ER C h i.size s)<|yd C h j i.size n (kP n bu.cells) s)<|none
  |_,_=>none)
 |_=>none
def afO(i:TypeInfo):Bool:=match i.zero with|some bu=>Nat.beq bu.cells.size i.size|none=>false
def EM(h:V an)(j:Nat)(st:Nat)(s x:J):Option eg:=
 match C.P.underlying st with
 |some (.slice ep)=>(match C.P.info? ep with
  |some i=>(match lh C h i.size x with
   |some (n,l)=>bV (Nat.blt 0 i.size&&Nat.ble i.bytes 65536&&afO i) ((bV (Nat.beq n 0) (ER C h i.size s)<|yd C h j i.size n l s))<|none
   |none=>none)
  |none=>none)
 |_=>none
def azm(h:V an)(j:Nat)(b Y m:Nat)(l:List J):Option eg:=
 bV (Nat.beq m 0) (some (.val (.int .i64 0)))<|
 (match wJ C h b Y l with|some U=>some (.fE (.int .i64 (Int.ofNat m)) U j)|none=>none)
def setObj(h:V an)(j:Nat)(r:Nat)(Y:an)(v:J):Option eg:=
 bV (kD C r) (jo (bo C h r (some Y)) λh=>some (.fE v h j))<|none
def HJ(h:V an)(j:Nat)(t:Nat)(m F v:J):Option eg:=
 match C.P.underlying t,m with
 |some (.map jH _), .map r=>(match ab C h r with
  |some (.map b7 fh)=>bV (m1 C 20 jH F) (match findKey C h jH F b7 0 with
   |some (some (i,_))=>(match rG b7 i with
    |some (fa,_,born)=>bV (nJ 20 fa F) (setObj C h j r (.map (b7.set i (F,v,born)) fh) undef) none
    |none=>none)
   |some none=>setObj C h j r (.map (b7++[(F,v,fh)]) (fh+1)) undef
   |none=>none) none
  |_=>none)
 |_,_=>none
def NS(x e:J):Bool:=match x,e with
    | .bool K, .bool b=>E0 K b
    | .int F K, .int fa b=>mq F fa&&xw K b
    | .str K, .str b=>mS K b
    | .aU, .aU=>true
    | .cy, .cy=>true
    | .nilIface, .nilIface=>true
    |_,_=>false
def D7:List J->List J->Bool
 |[],[]=>true
 |K::x,b::e=>NS K b&&D7 x e
 |_,_=>false
def known(f:Nat)(args:List J):List (Nat×List J×J)->Option J
 |[]=>none
 |(g,cv,v)::l=>bV (Nat.beq f g&&D7 args cv) (some v)<|known f args l
def r4(f:Nat)(args:List J):Option eg:=
 match C.hf f args with
 |some v=>some (.known f args v)
 |none=>(match C.P.funcs[f]? with
  |some fn=>(match fn.body with
   |some _=>some (.enter f args)
   |none=>none)
  |none=>none)
def AJ(fn:Fn)(fO args:List J):Option eg:=
 match fn with
 | .func f=>r4 C f (args++fO)
 | .yield l=>some (.round l args)
 |_=>none
def EN(h:V an)(t:Nat)(v:J)(name:String)(args:List J):Option eg:=
 match C.P.info? t with
 |some i=>(match i.methods.find? (·.name==name)with
  |some m=>bV m.path.isEmpty (match m.func,C.P.underlying t with
   |some (f,true),some (.pointer _)=>r4 C f (v::args)
   |some (f,false),some (.pointer I)=>(match lK C h I v with|some x=>r4 C f (x::args)|none=>none)
   |some (f,false),some _=>r4 C f (v::args)
   |_,_=>none) none
  |none=>none)
 |none=>none
def Oc(h:V an)(j s:Nat)(K v:J):Option eg:=
 match K with
 | .ptr b Y=>bV (Nat.beq v.cells.length s&&Nat.blt 0 s) ((match wJ C h b Y v.cells with|some U=>some (.fE undef U j)|none=>none))<|none
 |_=>none
def FE(t:Nat)(m F x:Operand)(h:V an)(j:Nat)(ay:Operand->Option J):Option eg:=
 match ay m,ay F,ay x with
 |some m,some F,some v=>HJ C h j t m F v
 |_,_,_=>none
def II(_:Nat)(_ _:Operand)(_:V an)(_:Nat)(_:Operand->Option J):Option eg:=(λ_:a2=>none) C
def IA(_ _ _:Operand)(_:V an)(_:Nat)(_:Operand->Option J):Option eg:=(λ_:a2=>none) C
def IH(t:Nat)(l c:Operand)(h:V an)(j:Nat)(ay:Operand->Option J):Option eg:=
 match C.P.underlying t,ay l,ay c with
 |some (.slice ep),some l,some c=>(match nc l,nc c,C.P.info? ep,s8 C ep with
  |some l,some c,some i,some bu=>bV (Nat.ble l c&&Nat.ble c 1048576&&Nat.ble i.bytes 65536&&Nat.blt 0 i.size&&Nat.beq bu.cells.length i.size) (nd C h j (.cells (V.ofList (kP c bu.cells) 0 .nil) (c*i.size) .own) λb=> .slice b 0 l c)<|none
  |_,_,_,_=>none)
 |_,_,_=>none
def IG(t:Nat)(r:Operand)(h:V an)(j:Nat)(ay:Operand->Option J):Option eg:=
 match C.P.underlying t,ay r with
 |some (.map _ _),some (.int _ _)=>nd C h j (.map [] 0) λb=> .map b
 |_,_=>none
def IM(s d:Nat)(x:Operand)(h:V an)(j:Nat)(ay:Operand->Option J):Option eg:=
 match C.P.underlying s,C.P.underlying d,ay x with
 |some .string,some (.slice I),some (.str l)=>(match C.P.underlying I with
  |some (.int .u8)=>tz C h j l.length 1 (l.map λn=>J.int .u8 (Int.ofNat n))
  |_=>none)
 |some (.slice _),some (.slice I),some (.slice b Y len cap)=>(match C.P.underlying I with
  |some (.int .u8)=>bV (Nat.beq s d&&kD C b) (match ab C h b with
   |some (.cells c n .own)=>jo (bo C h b (some (.cells c n .marked))) λh=>some (.fE (.slice b Y len cap) h j)
   |some (.cells _ _ .marked)=>some (.val (.slice b Y len cap))
   |_=>none) none
  |_=>none)
 |_,_,_=>none
def IK(t:Nat)(x:Operand)(h:V an)(j:Nat)(ay:Operand->Option J):Option eg:=
 match C.P.underlying t,ay x with
 |some .string,some (.str s)=>nd C h j (.ox s 0) λb=> .ptr b 0
 |some (.map _ _),some .l2=>nd C h j (.y8 none 0 [] 0) λb=> .ptr b 0
 |some (.map _ _),some (.map r)=>(match ab C h r with
  |some (.map _ fh)=>nd C h j (.y8 (some r) fh [] fh) λb=> .ptr b 0
  |_=>none)
 |_,_=>none
def om(n:Nat):List Nat->Bool
 |[]=>false
 |K::l=>Nat.beq n K||om n l
def w7(eT:Operand)(y3:Bool)(h:V an)(j:Nat)(ay:Operand->Option J):Option eg:=
 match ay eT with
 |some (.ptr r 0)=>bV (kD C r) (match ab C h r,y3 with
  |some (.ox s pos),true=>bV (Nat.blt pos s.length) (match rG s pos with
    |some c=>bV (Nat.blt c 128) (setObj C h j r (.ox s (pos+1)) (.tuple [.bool true, .int .i64 (Int.ofNat pos), .int .i32 (Int.ofNat c)])) none
    |none=>none)
   (some (.val (.tuple [.bool false])))
  |some (.y8 none _ _ _),false=>some (.val (.tuple [.bool false]))
  |_,_=>none) none
 |_=>none
def QQ(x:Operand)(_:V an)(_:Nat)(ay:Operand->Option J):Option eg:=
 match ay x with|some (.iface t v)=>some (.panic (.iface t v))|_=>none
def QB(c:Call)(_:V an)(_:Nat)(ay:Operand->Option J):Option eg:=
 match c with
 |⟨.value f,args,_⟩=>(match ay f,pO ay args.toList with
  |some (.func fn first fO),some cv=>some (.defer ⟨.fn fn fO,first++cv⟩)
  |_,_=>none)
 |_=>none
def It(b:Builtin)(args:Array Operand)(dm:Array TypeId)(h:V an)(j:Nat)(ay:Operand->Option J):Option eg:=
 match b,pO ay args.toList with
 | .append,some [s,x]=>(match dm.toList with
   |st::iB::_=>(match C.P.underlying iB with
    |some (.int _)=>(match nc x with|some n=>K8 C h j st s n|none=>none)
    |some (.slice _)=>EM C h j st s x
    |some .string=>EM C h j st s x
    |_=>none)
   |_=>none)
 | .recover,some []=>some .recover
 |_,_=>none
def CW(c:Call)(h:V an)(j:Nat)(ay:Operand->Option J):Option eg:=
 match c with
 |⟨.value f,args,_⟩=>(match ay f,pO ay args.toList with
  |some (.func fn first fO),some cv=>AJ C fn fO (first++cv)
  |_,_=>none)
 |⟨.builtin b,args,dm⟩=>It C b args dm h j ay
 |⟨.invoke r name,args,_⟩=>(match ay r,pO ay args.toList with
  |some (.iface t v),some cv=>EN C h t v name cv
  |_,_=>none)
def nu(Y:Op):a2->V an->Nat->(Operand->Option J)->Option eg:=
 match Y with
 | .mapUpdate t m F x=>λC=>FE C t m F x
 | .insert t m F x=>λC=>FE C t m F x
 | .mapEntry t m F=>λC=>II C t m F
 | .entryStore _ m s x=>λC=>IA C m s x
 | .makeSlice t l c=>λC=>IH C t l c
 | .makeMap t (some r)=>λC=>IG C t r
 | .convert s d x=>λC=>IM C s d x
 | .range t x=>λC=>IK C t x
 | .next eT y3=>λC=>w7 C eT y3
 | .panic x=>λ_=>QQ x
 | .defer c=>λ_=>QB c
 | .call c=>λC=>CW C c
 |_=>λ_ _ _ _=>none
end ax
def kY(x:kp):List (Nat×J)->V J->Option J:=
 match x with
 | .v aa=>λaw _=>ez aw aa
 | .t n=>λ_ M=>M.get n
 | .c K=>λ_ _=>some K
def AW(aw:List (Nat×J))(M:V J):List kp->Option (List J)
 |[]=>some []
 |x::l=>match kY x aw M with
  |none=>none
  |some v=>match AW aw M l with
   |none=>none
   |some r=>some (v::r)
def i7(b3:List (Nat×Nat))(aw:List (Nat×J))(M:V J)(Y:Operand):Option J:=match Y with
 | .tmp t=>(match ez b3 t with|some aa=>ez aw aa|none=>M.get t)
 | .const v=>D0 v
 | .global g=>some (.ptr g 0)
 | .func f=>some (.func (.func f) [] [])
def a1(d:Nat)(v:J):Option J:=match v with| .ptr b Y=>some (.ptr b (Y+d))|_=>none
def OC(c:J)(K b:kp)(aw:List (Nat×J))(M:V J):Option J:=match c with
 | .bool c=>bV c (kY K aw M) (kY b aw M)
 |_=>none
def KQ(n br:Nat)(x:J)(i:Nat):Option J:=match x with| .ptr b Y=>bV (Nat.blt i n) (some (.ptr b (Y+i*br))) none|_=>none
def Ck(br:Nat)(x:J)(i:Nat):Option J:=match x with
 | .slice b Y len _=>bV (Nat.blt i len) (some (.ptr b (Y+i*br))) none
 | .fm b Y len _=>bV (Nat.blt i len) (some (.ptr b (Y+i*br))) none
 |_=>none
def cl(v:J):Option J:=match v with
 | .ptr b Y=>some (.ptr b Y)
 | .func fn K b=>(match fn with| .func f=>some (.func (.func f) K b)| .yield f=>some (.func (.yield f) K b)|_=>none)
 | .iface t v=>some (.iface t v)
 |_=>none
def cK(i:Nat)(v:J):Option J:=match v with| .tuple bj=>rG bj i|_=>none
def gU(Y:jM):a2->V an->List (Nat×J)->V J->Option J:=
 match Y with
 | .DQ x=>λ_ _=>kY x
 | .pick c K b=>λ_ _ aw M=>(match kY c aw M with|some c=>OC c K b aw M|none=>none)
 | .f0 K=>λC h aw M=>(match kY K aw M with|some K=>al C h K|none=>none)
 | .BK n K=>λC h aw M=>(match kY K aw M with|some K=>bM C h n K|none=>none)
 | .off d x=>λ_ _ aw M=>(match kY x aw M with|some K=>a1 d K|none=>none)
 | .BC n br x i=>λ_ _ aw M=>(match kY x aw M with|some K=>(match kY i aw M with|some i=>(match nc i with|some i=>KQ n br K i|none=>none)|none=>none)|none=>none)
 | .BD br x i=>λ_ _ aw M=>(match kY x aw M with|some K=>(match kY i aw M with|some i=>(match nc i with|some i=>Ck br K i|none=>none)|none=>none)|none=>none)
 | .DW x=>λ_ _ aw M=>(match kY x aw M with|some K=>cl K|none=>none)
 | .JG op x e=>λ_ _ aw M=>(match kY x aw M with|some K=>(match kY e aw M with|some b=>aC op K b|none=>none)|none=>none)
 | .ext i x=>λ_ _ aw M=>(match kY x aw M with|some K=>cK i K|none=>none)
 | .ia b3 Y=>λC h aw M=>nY Y C h (i7 b3 aw M)
 |_=>λ_ _ _ _=>none
def n7(Y:jM):a2->Nat->List (Nat×J)->V J->Option (J×an):=
 match Y with
 | .make b3 Y=>λC b aw M=>qh Y C (i7 b3 aw M) b
 |_=>λ_ _ _ _=>none
def hY(Y:jM):a2->V an->Nat->List (Nat×J)->V J->Option eg:=
 match Y with
 | .st n K v=>λC h j aw M=>(match kY K aw M with|some K=>(match kY v aw M with|some v=>Oc C h j n K v|none=>none)|none=>none)
 | .call f args=>λC _ _ aw M=>(match AW aw M args with|some cv=>r4 C f cv|none=>none)
 | .fs b3 Y=>λC h j aw M=>nu Y C h j (i7 b3 aw M)
 |_=>λ_ _ _ _ _=>none
inductive af3 where|ia|make|fs
def mP(Y:jM):af3:=match Y with
 | .st .. => .fs| .call .. => .fs| .fs .. => .fs
 | .make .. => .make
 |_=> .ia
def Ns(Y:jM)(C:a2)(h:V an)(j:Nat)(aw:List (Nat×J))(M:V J):Option eg:=
 qn j λj=>(match n7 Y C j aw M with|some (v,cO)=>jo (bo C h j (some cO)) λh=>some (.fE v h (j+1))|none=>none)
def fB(m i:Nat):Bool:=Nat.beq (Nat.mod (Nat.div m (Nat.pow 2 i)) 2) 1
def mV(b3:List (Nat×Nat))(Y:Operand):Option kp:=match Y with
 | .tmp t=>(match ez b3 t with|some aa=>some (.v aa)|none=>some (.t t))
 | .const v=>(match D0 v with|some K=>some (.c K)|none=>none)
 | .global g=>some (.c (.ptr g 0))
 | .func f=>some (.c (.func (.func f) [] []))
def Hj(b3:List (Nat×Nat)):List Operand->Option (List kp)
 |[]=>some []
 |x::l=>match mV b3 x,Hj b3 l with|some v,some r=>some (v::r)|_,_=>none
def asC(C:a2)(s d:Nat):Bool:=match C.P.underlying s,C.P.underlying d with
 |some .string,some (.slice _)=>true
 |some (.slice _),some (.slice _)=>true
 |_,_=>false
def asz(C:a2)(t:Nat):Bool:=match C.P.underlying t with|some (.int _)=>true|_=>false
def lN(C:a2)(b3:List (Nat×Nat))(Y:Op):Option jM:=
 match Y with
 | .move x| .assign x=>(match mV b3 x with|some x=>some (.DQ x)|none=>none)
 | .pick c K b=>(match mV b3 c,mV b3 K,mV b3 b with|some c,some K,some b=>some (.pick c K b)|_,_,_=>none)
 | .load t K=>(match mV b3 K,DA C t,ji C t with
   |some K,some true,some s=>some (.BK s K)
   |some K,some false,_=>some (.f0 K)
   |_,_,_=>none)
 | .fieldAddr s x f=>(match C.P.underlying s,mV b3 x with
   |some (.struct jS),some x=>(match rG jS.toList f with
    |some se=>(match ji C se.type with|some bu=>bV (Nat.beq bu 0) (none)<|some (.off se.offset x)|none=>none)
    |none=>none)
   |_,_=>none)
 | .indexAddr t x i=>(match C.P.underlying t,mV b3 x,mV b3 i with
   |some (.array n ep),some x,some i=>(match ji C ep with|some br=>some (.BC n br x i)|none=>none)
   |some (.slice ep),some x,some i=>(match ji C ep with|some br=>some (.BD br x i)|none=>none)
   |_,_,_=>none)
 | .nilCheck x=>(match mV b3 x with|some x=>some (.DW x)|none=>none)
 | .binOp op t x e Ho=>bV (asz C t) ((match mV b3 x,mV b3 e with|some x,some e=>some (.JG op x e)|_,_=>none))<|some (.ia b3 (.binOp op t x e Ho))
 | .extract x i=>(match mV b3 x with|some x=>some (.ext i x)|none=>none)
 | .store t K x=>(match mV b3 K,mV b3 x,ji C t with|some K,some x,some s=>some (.st s K x)|_,_,_=>none)
 | .call ⟨.value (.func f),args,dm⟩=>(match Hj b3 args.toList with|some cv=>some (.call f cv)|none=>none)
 | .call ⟨.builtin b,args,dm⟩=>(match b with
   | .len| .cap| .max| .min=>some (.ia b3 (.call ⟨.builtin b,args,dm⟩))
   |_=>some (.fs b3 (.call ⟨.builtin b,args,dm⟩)))
 | .call c=>some (.fs b3 (.call c))
 | .convert s d x=>bV (asC C s d) (some (.fs b3 (.convert s d x)))<|some (.ia b3 (.convert s d x))
 | .alloc t=>some (.make b3 (.alloc t))
 | .box t x=>some (.make b3 (.box t x))
 | .buildSlice t l p=>some (.make b3 (.buildSlice t l p))
 | .makeMap t none=>some (.make b3 (.makeMap t none))
 | .makeMap t (some r)=>some (.fs b3 (.makeMap t (some r)))
 | .mapUpdate t m F x=>some (.fs b3 (.mapUpdate t m F x))
 | .insert t m F x=>some (.fs b3 (.insert t m F x))
 | .mapEntry t m F=>some (.fs b3 (.mapEntry t m F))
 | .entryStore t m s x=>some (.fs b3 (.entryStore t m s x))
 | .makeSlice t l c=>some (.fs b3 (.makeSlice t l c))
 | .range t x=>some (.fs b3 (.range t x))
 | .next i s=>some (.fs b3 (.next i s))
 | .panic x=>some (.fs b3 (.panic x))
 | .defer c=>some (.fs b3 (.defer c))
 |Y=>some (.ia b3 Y)
def wS(aa:Nat):List (Nat×Nat)->Option Nat
 |[]=>none
 |(t,i)::l=>bV (Nat.beq i aa) (some t)<|wS aa l
def HU(es:List (Nat×Nat))(g:Option (Nat×Bool)):Option (Option (Nat×Bool)):=match g with
 |none=>some none
 |some (aa,lF)=>(match wS aa es with
  |some t=>(match ez es t with
   |some pb=>bV (Nat.beq aa pb) (some (some (aa,lF)))<|none
   |none=>none)
  |none=>none)
def yb(Y:Oper)(i:Nat)(es:List (Nat×Nat)):List (Nat×Nat):=match Y.dst with|some d=>(d,i)::es|none=>es
def Lv(n:Nat)(Y:Oper):Bool:=match Y.dst with|some d=>Nat.blt d n|none=>true
def Ad(C:a2)(av:Nat)(b3:List (Nat×Nat))(Y:Operand):Bool:=match Y with
 | .tmp t=>(match ez b3 t with|some _=>true|none=>fB av t)
 | .global g=>Nat.blt g C.nL
 |_=>true
def D2(C:a2)(av:Nat)(b3:List (Nat×Nat)):List Operand->Bool
 |[]=>true
 |x::l=>Ad C av b3 x&&D2 C av b3 l
def r8(C:a2)(n av:Nat):List Oper->Nat->List (Nat×Nat)->Option (List fx)
 |[],_,_=>some []
 |Y::l,i,es=>qn i λi=>match HU es Y.guard,lN C es Y.op with
  |some g,some op=>bV (Lv n Y&&D2 C av es Y.op.operands.toList) (match r8 C n av l (i+1) (yb Y i es)with|some r=>some (⟨i,g,op⟩::r)|none=>none) none
  |_,_=>none
def kZ(av:Nat):List Oper->Nat->List (Nat×Nat)
 |[],_=>[]
 |Y::l,i=>match Y.dst with
  |some d=>bV (fB av d) ((i,d)::kZ av l (i+1))<|kZ av l (i+1)
  |none=>kZ av l (i+1)
def dstsOf:List Oper->List Nat
 |[]=>[]
 |Y::l=>match Y.dst with|some d=>d::dstsOf l|none=>dstsOf l
structure OI where
 rest:List fx
 fin:List (Nat×Nat)
def J7(C:a2)(n:Nat)(ax:Array Oper)(av:Nat):Option OI:=
 match r8 C n av ax.toList 0 []with
 |some cs=>some ⟨cs,kZ av ax.toList 0⟩
 |none=>none
def GX(Y:Operand)(m:Nat):Nat:=match Y with| .tmp t=>Nat.lor m (Nat.pow 2 t)|_=>m
def GY(l:List Operand):Nat:=l.foldr GX 0
def H5(Y:Oper):Nat:=match Y.dst with|some d=>Nat.pow 2 d|none=>0
def L3(es:List (Nat×Nat))(g:Option (Nat×Bool)):Nat:=match g with
 |none=>0
 |some (aa,_)=>(match wS aa es with|some t=>Nat.pow 2 t|none=>0)
def CK(iz:List (Nat×Nat))(I:Edge)(m:Nat):Nat:=
 bV (fB m I.on) (m)<|bV (Region.binds .any I) ((match ez iz I.on with|some F=>Nat.lor (Nat.lor m F) (Nat.pow 2 I.on)|none=>m))<|m
structure gj where
 i:Nat
 m:Nat
 r:Nat
 w:Nat
def BR:List Oper->Nat->List (Nat×Nat)->List (Nat×Nat)->List gj
 |[],_,_,_=>[]
 |Y::l,i,es,iz=>qn i λi=>qn (Y.after.toList.foldr (CK iz) 0) λm=>
  ⟨i,m,Nat.lor (GY Y.op.operands.toList) (L3 es Y.guard),H5 Y⟩::BR l (i+1) (yb Y i es) ((i,m)::iz)
def NI(K b:gj):Bool:=
 fB b.m K.i||(Nat.beq (Nat.land K.w (Nat.lor b.r b.w)) 0&&Nat.beq (Nat.land b.w K.r) 0)
def NK(K:gj):List gj->Bool
 |[]=>true
 |b::l=>NI K b&&NK K l
def Ki:List gj->Bool
 |[]=>true
 |K::l=>NK K l&&Ki l
def I2:List gj->Bool
 |[]=>true
 |K::l=>(match l with|[]=>true|b::_=>fB b.m K.i)&&I2 l
def D1:List Oper->Nat->Bool
 |[],_=>true
 |Y::l,i=>Y.after.toList.all (λI=> !Region.binds .any I||Nat.blt I.on i)&&D1 l (i+1)
def uD(m:Nat):List gj->Nat
 |[]=>0
 |a::l=>bV (fB m a.i) (Nat.succ (uD m l))<|uD m l
def Bf(i:Nat):List gj->Nat
 |[]=>0
 |a::l=>bV (fB a.m i) (0)<|Nat.succ (Bf i l)
structure pG where
 x:fx
 bU:Nat
 aN:Nat
def nH(Y:jM):Bool:=match mP Y with| .fs=>true|_=>false
def FL:List gj->List fx->List (gj×fx)
 |p::du,c::cs=>bV (nH c.op) ((p,c)::FL du cs)<|FL du cs
 |_,_=>[]
def GC(aI:List gj):List gj->List fx->List pG
 |p::du,c::cs=>bV (nH c.op) (GC aI du cs)<|⟨c,uD p.m aI,Bf p.i aI⟩::GC aI du cs
 |_,_=>[]
def tf(F:Nat):List pG->List fx
 |[]=>[]
 |l::iy=>bV (Nat.beq l.bU F) (l.x::tf F iy)<|tf F iy
def Ec(F:Nat):List pG->List fx
 |[]=>[]
 |l::iy=>bV (Nat.blt l.bU F&&Nat.ble F l.aN&&Ca l.x.op) (l.x::Ec F iy)<|Ec F iy
def y9(iy:List pG):Nat->List (gj×fx)->List wI
 |F,[]=>[⟨tf F iy,Ec F iy,none⟩]
 |F,(_,ah)::l=>⟨tf F iy,Ec F iy,some ah⟩::y9 iy (F+1) l
def qo:List (gj×fx)->List gj
 |[]=>[]
 |(p,_)::l=>p::qo l
structure OH where
 li:List wI
 fin:List (Nat×Nat)
def J6(C:a2)(n:Nat)(ax:Array Oper)(av:Nat):Option OH:=
 match r8 C n av ax.toList 0 []with
 |none=>none
 |some cs=>(λall=>(λaI=>bV (D1 ax.toList 0&&Ki all&&I2 (qo aI)) (some ⟨y9 (GC (qo aI) all cs) 0 aI,kZ av ax.toList 0⟩)<|none) (FL all cs)) (BR ax.toList 0 [] [])
def XU:List Oper->Nat->Nat->Nat
 |[],_,r=>r
 |Y::l,Xr,r=>XU l (Nat.lor Xr (H5 Y)) ((λrd=>Nat.lor r (Nat.xor rd (Nat.land rd Xr))) (GY Y.op.operands.toList))
def kl:Code->Nat
 | .region _ ax _=>XU ax.toList 0 0
 | .seq K b=>Nat.lor (kl K) (kl b)
 | .cond c K b=>GX c (Nat.lor (kl K) (kl b))
 | .block _ b=>kl b
 | .loop b=>kl b
 | .scope b=>kl b
 | .rangeFunc f _ K b=>GX f (Nat.lor (kl K) (kl b))
 |_=>0
def nO(l:List ResultVar):Nat:=l.foldr (λx r=>match x with| .tmp t=>Nat.lor r (Nat.pow 2 t)| .cell K _=>Nat.lor r (Nat.pow 2 K)) 0
def lO(C:a2)(av:Nat):Code->Bool
 | .seq K b=>lO C av K&&lO C av b
 | .cond c K b=>Ad C av [] c&&(lO C av K&&lO C av b)
 | .block _ b=>lO C av b
 | .loop b=>lO C av b
 | .scope b=>lO C av b
 | .rangeFunc f _ K b=>Ad C av [] f&&(lO C av K&&lO C av b)
 |_=>true
def Ag(av:Nat):List ResultVar->Bool
 |[]=>true
 | .tmp t::l=>fB av t&&Ag av l
 | .cell K _::l=>fB av K&&Ag av l
end
end Go.bk
@[match_pattern]abbrev Go.bk.J.Z(x:Int):Go.bk.J:=.int .i64 x
namespace Go.bk
@[simp] def e6{α:Type _}(K b:α):bV true K b=K:=rfl
@[simp] def jz{α:Type _}(K b:α):bV false K b=b:=rfl
def fG{α:Type _}(c:Bool)(K b:α):bV c K b=if c=true then K else b:=by cases c<;>rfl
def hO{α:Type _}(x e:Nat)(K b:α):bV (Nat.beq x e) K b=if x=e then K else b:=by
 rw[fG];by_cases a:x=e
 ·rw[Zr a,Zr (Nat.beq_eq▸a)]
 ·rw[Zh a,Zh (λI=>a (Zj I))]
@[simp] def e5{α:Type _}(c:Bool)(K:Option α)(v:α):bV c K none=some v↔c=true/\K=some v:=by cases c<;>simp
@[simp] def mg{eP:Type}(n:Nat)(F:Nat->eP):qn n F=F n:=by cases n<;>rfl
@[simp] def Fo{eP:Type}(n:Int)(F:Int->eP):P9 n F=F n:=by
  cases n with
  |ofNat m=>exact mg m λm=>F (.ofNat m)
  |negSucc m=>exact mg m λm=>F (.negSucc m)
@[simp] def hw{α eP:Type}(t:V α)(F:V α->eP):jo t F=F t:=by cases t<;>rfl
@[simp] def akC{α:Type}(aa:Nat):ez ([]:List (Nat×α)) aa=none:=rfl
def rf{α:Type}(K:Nat)(b:α)(l:List (Nat×α))(aa:Nat):ez ((K,b)::l) aa=if K=aa then some b else ez l aa:=by
 show bV (Nat.beq K aa) (some b) (ez l aa)=_
 rw[hO]
@[simp] def pn{α:Type}(l:List α):∀i,rG l i=l[i]? :=by
  induction l with
  |nil=>intro i;rfl
  |cons K l am=>intro i;cases i with
   |zero=>rfl
   |succ aa=>exact am aa
namespace V
variable{α:Type}
@[simp] def azs(i:Nat):(V.nil:V α).get i=none:=rfl
@[simp] def azt(v:Option α)(l r:V α):(V.node v l r).get 0=v:=rfl
def A2(v:Option α)(l r:V α)(aa:Nat):(V.node v l r).get (aa+1)=if aa%2=0 then l.get (aa/2)else r.get (aa/2):=by
 show bV (Nat.beq (aa%2) 0) (l.get (aa/2)) (r.get (aa/2))=_
 rw[hO]
def aw4(f:Nat)(K:Option α):rI (f+1) V.nil 0 K= .node K .nil .nil:=rfl
def aw3(f aa:Nat)(K:Option α):rI (f+1) V.nil (aa+1) K=
 if aa%2=0 then .node none (rI f .nil (aa/2) K) .nil else .node none .nil (rI f .nil (aa/2) K):=by
 show bV (Nat.beq (aa%2) 0) (jo (rI f .nil (aa/2) K) λci=>V.node none ci V.nil) (jo (rI f .nil (aa/2) K) λhW=>V.node none V.nil hW)=_
 rw[hO,hw,hw]
def aw6(f:Nat)(v:Option α)(l r:V α)(K:Option α):rI (f+1) (.node v l r) 0 K= .node K l r:=rfl
def aw5(f aa:Nat)(v:Option α)(l r:V α)(K:Option α):rI (f+1) (.node v l r) (aa+1) K=
 if aa%2=0 then .node v (rI f l (aa/2) K) r else .node v l (rI f r (aa/2) K):=by
 show bV (Nat.beq (aa%2) 0) (jo (rI f l (aa/2) K) λci=>V.node v ci r) (jo (rI f r (aa/2) K) λhW=>V.node v l hW)=_
 rw[hO,hw,hw]
def anR:∀(f:Nat) (t:V α) (i aa:Nat) (K:Option α),i<f->(rI f t i K).get aa=if i=aa then K else t.get aa:=by
 intro f
 induction f with
 |zero=>intro t i aa K a;omega
 |succ f am=>
  intro t i aa K a
  cases i with
  |zero=>
   cases t with
   |nil=>rw[aw4];cases aa with
    |zero=>simp
    |succ aa=>rw[A2];simp
   |node v l r=>rw[aw6];cases aa with
    |zero=>simp
    |succ aa=>rw[A2,A2];simp
  |succ i=>
   have aN:i/2<f:=Zo
   cases t with
   |nil=>
    rw[aw3]
    cases aa with
    |zero=>split<;>simp
    |succ aa=>
     by_cases I:i%2=0
     ·rw[Zr I,A2]
      by_cases it:aa%2=0
      ·rw[Zr it,am _ _ _ _ aN]
       by_cases ao:i/2=aa/2
       ·rw[Zr ao,Zr Zo]
       ·rw[Zh ao,Zh Zo];rfl
      ·rw[Zh it,Zh Zo];rfl
     ·rw[Zh I,A2]
      by_cases it:aa%2=0
      ·rw[Zr it,Zh Zo];rfl
      ·rw[Zh it,am _ _ _ _ aN]
       by_cases ao:i/2=aa/2
       ·rw[Zr ao,Zr Zo]
       ·rw[Zh ao,Zh Zo];rfl
   |node v l r=>
    rw[aw5]
    cases aa with
    |zero=>split<;>simp
    |succ aa=>
     rw[A2 v l r]
     by_cases I:i%2=0
     ·rw[Zr I,A2]
      by_cases it:aa%2=0
      ·rw[Zr it,Zr it,am _ _ _ _ aN]
       by_cases ao:i/2=aa/2
       ·rw[Zr ao,Zr Zo]
       ·rw[Zh ao,Zh Zo]
      ·rw[Zh it,Zh it,Zh Zo]
     ·rw[Zh I,A2]
      by_cases it:aa%2=0
      ·rw[Zr it,Zr it,Zh Zo]
      ·rw[Zh it,Zh it,am _ _ _ _ aN]
       by_cases ao:i/2=aa/2
       ·rw[Zr ao,Zr Zo]
       ·rw[Zh ao,Zh Zo]
def kc(t:V α)(i aa:Nat)(K:Option α):(t.set i K).get aa=if i=aa then K else t.get aa:=anR _ _ _ _ _ Zo
def LV(l:List α):∀(i:Nat) (t:V α) (aa:Nat),(ofList l i t).get aa=if i<=aa/\aa<i+l.length then l[aa-i]? else t.get aa:=by
 induction l with
 |nil=>intro i t aa;simp only[ofList,ZQ];rw[Zh Zo]
 |cons K l am=>
  intro i t aa
  simp only[ofList,hw]
  rw[am,kc]
  by_cases I:i=aa
  ·subst I;rw[Zh Zo,Zr rfl,Zr Zs];simp
  ·rw[Zh I]
   by_cases ao:i+1<=aa/\aa<i+1+l.length
   ·rw[Zr ao,Zr (by simp;omega)]
    have:aa-i=(aa-(i+1))+1:=Zo
    rw[this,ZI]
   ·rw[Zh ao,Zh (by simp;omega)]
def Qm(t:V α):∀(n Y:Nat) (l:List α),t.kE Y n=some l->l.length=n/\∀i,i<n->t.get (Y+i)=l[i]? :=by
 intro n
 induction n with
 |zero=>intro Y l a;simp[kE]at a;subst a;simp
 |succ n am=>
  intro Y l a
  simp only[kE]at a
  cases b0:t.get Y with
  |none=>simp[b0]at a
  |some K=>
   simp only[b0]at a
   cases Z:kE t (Y+1) n with
   |none=>simp[Z]at a
   |some r=>
    simp only[Z,Zf]at a
    subst a
    obtain⟨T,W⟩:=am _ _ Z
    refine⟨by simp[T],λi aN=> ?_⟩
    cases i with
    |zero=>simpa using b0
    |succ i=>rw[show Y+(i+1)=Y+1+i by omega,W i Zo];simp
end V
def T9(l:List J):∀(c:V J) (Y:Nat),d3 c Y l=V.ofList l Y c:=by
 induction l with
 |nil=>intro c Y;rfl
 |cons v l am=>intro c Y;simp only[d3,V.ofList,hw];exact am _ _
structure mB where
 cI:Nat
 ek:Nat
 room:Nat
 deriving Inhabited
abbrev da:=Nat->mB
def m2(S:da):Fn->Fn
 | .yield l=> .yield (S l).cI
 |f=>f
def f4(s:List Nat):ByteArray:=⟨(s.map UInt8.ofNat).toArray⟩
mutual
def aS(S:da):J->Value
 | .bool b=> .bool b
 | .int F n=> .int F n
 | .str s=> .string (f4 s)
 | .ptr b Y=> .pointer (some ⟨(S b).cI,(S b).ek+Y,none⟩)
 | .cy=> .pointer none
 | .slice b Y len cap=> .slice (some ⟨(S b).cI,(S b).ek+Y,none⟩) len cap
 | .fm b Y len br=> .slice (some ⟨(S b).cI,(S b).ek+Y,none⟩) len (((S b).room-Y)/br)
 | .aU=> .slice none 0 0
 | .map m=> .map (some (S m).cI)
 | .l2=> .map none
 | .func fn K b=> .func (m2 S fn) (b2 S K).toArray (b2 S b).toArray
 | .nilFunc=> .nilFunc
 | .iface t v=> .iface t (aS S v)
 | .nilIface=> .nilIface
 | .agg cs=> .agg (b2 S cs).toArray
 | .tuple bj=> .tuple (b2 S bj).toArray
def b2(S:da):List J->List Value
 |[]=>[]
 |v::l=>aS S v::b2 S l
end
def pL(S:da)(l:List J):b2 S l=l.map (aS S):=by
 induction l with
 |nil=>rfl
 |cons v l am=>simp[b2,am]
def LX(af:Nat->Prop):Fn->Prop
 | .yield l=>af l
 | .func _=>True
 |_=>False
mutual
def cn(af:Nat->Prop):J->Prop
 | .bool _=>True
 | .int _ _=>True
 | .str s=>∀x∈s,x<256
 | .ptr b _=>af b
 | .cy=>True
 | .slice b _ _ _=>af b
 | .fm b _ _ _=>af b
 | .aU=>True
 | .map m=>af m
 | .l2=>True
 | .func fn K b=>LX af fn/\eA af K/\eA af b
 | .nilFunc=>True
 | .iface _ v=>cn af v
 | .nilIface=>True
 | .agg cs=>eA af cs
 | .tuple bj=>eA af bj
def eA(af:Nat->Prop):List J->Prop
 |[]=>True
 |v::l=>cn af v/\eA af l
end
def uN(af:Nat->Prop)(l:List J):eA af l↔∀v∈l,cn af v:=by
 induction l with
 |nil=>simp[eA]
 |cons v l am=>simp[eA,am]
mutual
def Pz{S iC:da}{af:Nat->Prop}(a:∀b,af b->S b=iC b):∀v,cn af v->aS S v=aS iC v
 | .bool _,_=>rfl
 | .int _ _,_=>rfl
 | .str _,_=>rfl
 | .ptr b Y,g=>by simp only[aS,a b g]
 | .cy,_=>rfl
 | .slice b Y l c,g=>by simp only[aS,a b g]
 | .fm b Y l c,g=>by simp only[aS,a b g]
 | .aU,_=>rfl
 | .map m,g=>by simp only[aS,a m g]
 | .l2,_=>rfl
 | .func fn K b,g=>by
   obtain⟨b5,cd,c0⟩:=g
   have I:m2 S fn=m2 iC fn:=by
    cases fn<;>simp only[m2]
    rw[a _ b5]
   simp only[aS,I,Fb a K cd,Fb a b c0]
 | .nilFunc,_=>rfl
 | .iface t v,g=>by simp only[aS,Pz a v g]
 | .nilIface,_=>rfl
 | .agg cs,g=>by simp only[aS,Fb a cs g]
 | .tuple bj,g=>by simp only[aS,Fb a bj g]
def Fb{S iC:da}{af:Nat->Prop}(a:∀b,af b->S b=iC b):∀l,eA af l->b2 S l=b2 iC l
 |[],_=>rfl
 |v::l,g=>by simp only[b2,Pz a v g.1,Fb a l g.2]
end
mutual
def oV{af dr:Nat->Prop}(a:∀b,af b->dr b):∀v,cn af v->cn dr v
 | .bool _,_=>trivial
 | .int _ _,_=>trivial
 | .str _,g=>g
 | .ptr b _,g=>a b g
 | .cy,_=>trivial
 | .slice b _ _ _,g=>a b g
 | .fm b _ _ _,g=>a b g
 | .aU,_=>trivial
 | .map m,g=>a m g
 | .l2,_=>trivial
 | .func fn K b,g=>⟨by cases fn<;>first|exact a _ g.1|exact g.1,rm a K g.2.1,rm a b g.2.2⟩
 | .nilFunc,_=>trivial
 | .iface _ v,g=>oV a v g
 | .nilIface,_=>trivial
 | .agg cs,g=>rm a cs g
 | .tuple bj,g=>rm a bj g
def rm{af dr:Nat->Prop}(a:∀b,af b->dr b):∀l,eA af l->eA dr l
 |[],_=>trivial
 |v::l,g=>⟨oV a v g.1,rm a l g.2⟩
end
end Go.bk

namespace Go.bk
open Go.RowKit (Below)
structure jk(S:da)(af:Nat->Prop)(n av:Nat)(M:V J)(tmps:Array Value):Prop where
 size:tmps.size=n
 val:∀t v,fB av t=true->M.get t=some v->tmps[t]? =some (aS S v)/\cn af v
def OL(C:a2)(fn av:Nat):Prop:=∃f,C.P.funcs[fn]? =some f/\Ag av f.results.toList=true
def Gt(c:Code):Prop:=c= .ret\/∃id,c= .exit id
def CD(S:da):OD->Target
 | .fn fn fO=> .fn (m2 S fn) (b2 S fO).toArray
 | .collected r=> .collected (S r).cI
def lM(S:da)(d:hN):Deferred:=⟨CD S d.target,(b2 S d.args).toArray⟩
def an2(af:Nat->Prop):OD->Prop
 | .fn fn fO=>LX af fn/\eA af fO
 | .collected r=>af r
def wZ(af:Nat->Prop)(d:hN):Prop:=an2 af d.target/\eA af d.args
def EK(st:nW)(n:Nat)(pl:mB)(br bU aN:Nat):Prop:=match st with
 | .own=>bU=aN
 | .marked=>bU=aN\/br<=bU
 | .grow _=>(bU=aN\/br<=bU)/\n<=pl.room/\pl.ek+pl.room<=br
 | .j6=>True/\n<=pl.room/\pl.ek+pl.room<=br
def EK.free{st:nW}{n:Nat}{pl:mB}{br bU aN:Nat}(a:EK st n pl br bU aN)(k7:st≠ .j6):aN<=bU\/br<=bU:=by
 cases st with
 |own=>exact .inl (Y7 a.symm)
 |marked=>exact a.imp (λI=>Y7 I.symm) id
 |grow _=>exact a.1.imp (λI=>Y7 I.symm) id
 |j6=>exact absurd rfl k7
def lQ(S:da)(I:J×J×Nat):MapEntry:=⟨aS S I.1,aS S I.2.1,I.2.2⟩
def j9(C:a2)(S:da)(af:Nat->Prop)(Y:an)(pl:mB)(w:World):Prop:=match Y with
 | .cells c n st=>∃cq ty bU aN,w.heap[pl.cI]? =some (.cells cq ty (bU,aN))/\EK st n pl cq.size bU aN/\pl.ek+n<=cq.size/\
    ∀i v,c.get i=some v->cq[pl.ek+i]? =some (aS S v)/\cn af v
 | .map b7 fh=>∃cq,w.heap[pl.cI]? =some (.map cq fh)/\cq.toList=b7.map (lQ S)/\∀I∈b7,cn af I.1/\cn af I.2.1
 | .look b7=>∃(cq:Array MapEntry) (fh:Nat) (me:List (J×J×Nat)),w.heap[pl.cI]? =some (.map cq fh)/\cq.toList=me.map (lQ S)/\(me.map λI=>(I.1,I.2.1)).Perm b7/\∀I∈me,cn af I.1/\cn af I.2.1
 | .ox s pos=>pl.ek=0/\w.heap[pl.cI]? =some (.stringIter (f4 s) pos)/\∀x∈s,x<256
 | .y8 m vZ seen st=>pl.ek=0/\w.heap[pl.cI]? =some (.mapIter (m.map λb=>(S b).cI) vZ seen.toArray st)/\∀b,m=some b->af b
 | .GI m vZ n cD st nv=>pl.ek=0/\af m/\∃seen:List Nat,w.heap[pl.cI]? =some (.mapIter (some (S m).cI) vZ seen.toArray st)/\(cD.filter λb=> !seen.contains b).length<=n/\∀b,nv=some b->ac1 seen=some b
 | .loop state pending fn n av M params assign body bg=>∃tmps,w.heap[pl.cI]? =some (.loop ⟨state,pending,fn,tmps,params.toArray,assign,body,(S bg).cI⟩)/\jk S af n av M tmps/\af bg/\
    lO C av assign=true/\lO C av body=true/\(∀c,pending=some c->Gt c)/\OL C fn av
 | .deferred pK=>w.heap[pl.cI]? =some (.deferred (pK.map λl=>l.map (lM S)))/\∀l,pK=some l->∀d∈l,wZ af d
def O2(Y o':an)(b dN:Nat):Prop:=
 (∃c n f9 aV,Y= .cells c n .j6/\o'= .cells f9 aV .j6)\/
 (∃c n l f9 aV,Y= .cells c n (.grow l)/\o'= .cells f9 aV .j6/\dN∈l/\aV<=n)\/
 (∃c n l f9 aV,o'= .cells f9 aV (.grow l)/\Y= .cells c n .j6/\b∈l/\n<=aV)
def wE(C:a2)(af:Nat->Prop)(Y:an):Prop:=(∀c n l,Y= .cells c n (.grow l)->∀x∈l,af x/\C.ba<=x)/\∀c n st,Y= .cells c n st->∀i v,c.get i=some v->i<n
structure dt(C:a2)(S:da)(af:Nat->Prop)(h:V an)(j bm:Nat)(w:World):Prop where
 ba:C.ba<=j
 lt:∀b,af b->b<j
 vO:∀b Y,ab C h b=some Y->b<j
 obj:∀b Y,ab C h b=some Y->af b->j9 C S af Y (S b) w
 sep:∀b dN Y o',ab C h b=some Y->ab C h dN=some o'->af b->af dN->b≠dN->C.ba<=b->(S b).cI=(S dN).cI->O2 Y o' b dN/\(S b).ek=(S dN).ek
 base:∀b Y,C.ba<=b->ab C h b=some Y->af b->bm<=(S b).cI
 fz:∀b Y,ab C h b=some Y->af b->wE C af Y
def jj(S:da)(af:Nat->Prop)(ay:Operand->Value)(eG:Operand->Option J)(l:List Operand):Prop:=
 ∀x∈l,∀v,eG x=some v->ay x=aS S v/\cn af v
section
variable{C:a2}{S:da}{af:Nat->Prop}{h:V an}{j bm:Nat}{w:World}
def Pp(s:ByteArray):f4 (s.data.toList.map (·.toNat))=s:=by
 unfold f4
 rw[YA]
 have:(UInt8.ofNat∘λx:UInt8=>x.toNat)=id:=by funext x;simp
 rw[this]
 simp
def auc{α eP:Type}(f:α->Option eP):∀(l:List α) (r:List eP),BP f l=some r->r.length=l.length/\∀(i:Nat) (K:α),l[i]? =some K->∃b,r[i]? =some b/\f K=some b:=by
 intro l
 induction l with
 |nil=>intro r a;simp[BP]at a;subst a;simp
 |cons K l am=>
  intro r a
  simp only[BP]at a
  cases b9:f K with
  |none=>simp[b9]at a
  |some b=>
   simp only[b9]at a
   cases Z:BP f l with
   |none=>simp[Z]at a
   |some hW=>
    simp only[Z,Zf]at a
    subst a
    obtain⟨T,W⟩:=am _ Z
    refine⟨by simp[T],λi x ah=> ?_⟩
    cases i with
    |zero=>simp at ah;subst ah;exact⟨b,Zs,b9⟩
    |succ i=>simp at ah;obtain⟨e,H,ash⟩:=W i x ah;exact⟨e,by simpa using H,ash⟩
def auT(S:da)(af:Nat->Prop):∀(n:Nat) (v:Value) (K:J),BV n v=some K->v=aS S K/\cn af K:=by
 intro n
 induction n with
 |zero=>intro v K a;simp[BV]at a
 |succ n am=>
  have list:∀(l:List Value) (r:List J),BP (BV n) l=some r->l=b2 S r/\eA af r:=by
   intro l r a
   obtain⟨T,W⟩:=auc _ l r a
   constructor
   ·rw[pL]
    apply YN
    intro i
    rw[Zt]
    cases ah:l[i]? with
    |none=>
     have:l.length<=i:=by simpa using ah
     rw[ZU Zo];rfl
    |some x=>
     obtain⟨b,ai,jV⟩:=W i x ah
     rw[ai,(am _ _ jV).1];rfl
   ·rw[uN]
    intro v bD
    obtain⟨i,aN⟩:=ZY.1 bD
    have c4:i<l.length:=by
     have:=(Zc.1 aN).1;omega
    obtain⟨b,ai,jV⟩:=W i l[i] (Ze c4)
    rw[aN]at ai;simp at ai;subst ai
    exact(am _ _ jV).2
  intro v K a
  unfold BV at a
  split at a<;>(try(simp at a;subst a;simp[aS,cn,m2,b2,LX,eA];done))
  ·simp at a;subst a
   refine⟨by simp only[aS];rw[Pp], ?_⟩
   simp only[cn]
   intro x ah
   obtain⟨e,_,rfl⟩:=ZJ.1 ah
   exact e.toNat_lt
  ·rename_i t v
   split at a
   ·rename_i f3 aE
    simp at a;subst a
    obtain⟨I,g⟩:=am _ _ aE
    exact⟨by simp only[aS,I],g⟩
   ·simp at a
  ·rename_i cs
   split at a
   ·rename_i l aD
    simp at a;subst a
    obtain⟨I,g⟩:=list _ _ aD
    exact⟨by simp only[aS];rw[<-I],g⟩
   ·simp at a
  ·rename_i cs
   split at a
   ·rename_i l aD
    simp at a;subst a
    obtain⟨I,g⟩:=list _ _ aD
    exact⟨by simp only[aS];rw[<-I],g⟩
   ·simp at a
  ·simp at a
def NG{v:Value}{K:J}(a:D0 v=some K):v=aS S K/\cn af K:=auT S af _ _ _ a
def rb(b Y i:Nat):(⟨b,Y,none⟩:Addr).add i=⟨b,Y+i,none⟩:=by unfold Addr.add;split<;>simp_all
def ale(Z:dt C S af h j bm w){b:Nat}(ai:af b){c:V J}(a:cellsOf C h b=some c):
 ∃cq ty bU aN,w.heap[(S b).cI]? =some (.cells cq ty (bU,aN))/\∀i v,c.get i=some v->cq[(S b).ek+i]? =some (aS S v)/\cn af v:=by
 unfold cellsOf at a
 split at a
 ·rename_i f9 n st bl
  simp at a;subst a
  obtain⟨cq,ty,bU,aN,T,_,_,aP⟩:=Z.obj b _ bl ai
  exact⟨cq,ty,bU,aN,T,aP⟩
 ·simp at a
def Xb(Z:dt C S af h j bm w){b:Nat}(ai:af b){c:V J}(a:cellsOf C h b=some c){Y:Nat}{v:J}(b0:c.get Y=some v):
 w.cell? ⟨(S b).cI,(S b).ek+Y,none⟩=some (aS S v)/\cn af v:=by
 obtain⟨cq,ty,bU,aN,T,aP⟩:=ale Z ai a
 obtain⟨bK,cr⟩:=aP Y v b0
 exact⟨by simp[World.cell?,T,bK],cr⟩
def Ll(Z:dt C S af h j bm w){b:Nat}(ai:af b){c:V J}(a:cellsOf C h b=some c){Y n:Nat}{l:List J}(b0:c.kE Y n=some l):
 (loadCells ⟨(S b).cI,(S b).ek+Y,none⟩ n).run C.P w= .ok (b2 S l).toArray w/\eA af l:=by
 obtain⟨T,W⟩:=V.Qm _ _ _ _ b0
 have key:∀i v,l[i]? =some v->w.cell? ⟨(S b).cI,(S b).ek+Y+i,none⟩=some (aS S v)/\cn af v:=by
  intro i v aN
  have c4:i<n:=zo (Zc.1 aN).1
  have:=Xb Z ai a (Y:=Y+i) (v:=v) (by rw[W i c4,aN])
  rwa[<-ZN]at this
 constructor
 ·have aD:=run_loadCells_list (P:=C.P) w ⟨(S b).cI,(S b).ek+Y,none⟩ (b2 S l) (λaa v bD=>by
   rw[rb]
   rw[pL,Zt]at bD
   cases ah:l[aa]? with
   |none=>simp[ah]at bD
   |some K=>simp[ah]at bD;subst bD;exact(key aa K ah).1)
  have fL:(b2 S l).length=n:=by rw[pL,Zi,T]
  rw[fL]at aD
  exact aD
 ·rw[uN]
  intro v bD
  obtain⟨i,aN⟩:=ZY.1 bD
  exact(key i v aN).2
def axZ{t n:Nat}(a:ji C t=some n):∃i,C.P.info? t=some i/\i.size=n:=by
 unfold ji at a
 cases aN:C.P.info? t with
 |none=>simp[aN]at a
 |some i=>simp[aN]at a;exact⟨i,rfl,a⟩
def pr{t n:Nat}(a:ji C t=some n)(w:World):(sizeOf t).run C.P w= .ok n w:=by
 obtain⟨i,aN,rfl⟩:=axZ a
 simp[sizeOf,typeInfo,aN]
def Eg{t:Nat}{bu:J}(a:s8 C t=some bu)(S:da)(af:Nat->Prop)(w:World):(zeroValue t).run C.P w= .ok (aS S bu) w/\cn af bu:=by
 unfold s8 at a
 cases aN:C.P.info? t with
 |none=>simp[aN]at a
 |some i=>
  simp only[aN]at a
  cases cw:i.zero with
  |none=>simp[cw]at a
  |some v=>
   simp only[cw]at a
   obtain⟨I,g⟩:=NG (S:=S) (af:=af) a
   exact⟨by simp[zeroValue,typeInfo,aN,cw,I],g⟩
def N5{t:Nat}{b:Bool}(a:DA C t=some b)(w:World):(isAgg t).run C.P w= .ok b w:=by
 unfold DA at a
 cases be:C.P.underlying t with
 |none=>simp[be]at a
 |some d=>
  simp only[be]at a
  cases d<;>simp at a<;>subst a<;>simp[isAgg,run_underlying be]
end
end Go.bk

namespace Go.bk
open Go.RowKit (Below)
section
variable{C:a2}{S:da}{af:Nat->Prop}{h:V an}{j bm:Nat}{w:World}
def nw{es:List (Nat×Nat)}{x:Operand}{to:kp}(a:mV es x=some to)(aw:List (Nat×J))(M:V J):kY to aw M=i7 es aw M x:=by
 cases x with
 |tmp t=>
  simp only[mV]at a
  cases aE:ez es t with
  |none=>simp[aE]at a;subst a;simp[kY,i7,aE]
  |some aa=>simp[aE]at a;subst a;simp[kY,i7,aE]
 |const v=>
  simp only[mV]at a
  cases bD:D0 v with
  |none=>simp[bD]at a
  |some K=>simp[bD]at a;subst a;simp[kY,i7,bD]
 |global g=>simp[mV]at a;subst a;rfl
 |func f=>simp[mV]at a;subst a;rfl
def amI{es:List (Nat×Nat)}(aw:List (Nat×J))(M:V J):∀{l:List Operand}{cs:List kp}{bj:List J},Hj es l=some cs->AW aw M cs=some bj->
 bj.length=l.length/\∀(i:Nat) x,l[i]? =some x->∃v,bj[i]? =some v/\i7 es aw M x=some v:=by
 intro l
 induction l with
 |nil=>intro cs bj T W;simp[Hj]at T;subst T;simp[AW]at W;subst W;simp
 |cons x l am=>
  intro cs bj T W
  simp only[Hj]at T
  cases ah:mV es x with
  |none=>simp[ah]at T
  |some to=>
   cases aD:Hj es l with
   |none=>simp[ah,aD]at T
   |some tm=>
    simp[ah,aD]at T;subst T
    simp only[AW]at W
    cases bD:kY to aw M with
    |none=>simp[bD]at W
    |some v=>
     cases Z:AW aw M tm with
     |none=>simp[bD,Z]at W
     |some r=>
      simp[bD,Z]at W;subst W
      obtain⟨K,b⟩:=am aD Z
      refine⟨by simp[K],λi e H=> ?_⟩
      cases i with
      |zero=>simp at H;subst H;exact⟨v,Zs,by rw[<-nw ah];exact bD⟩
      |succ i=>simp at H;simpa using b i e H
def amG{ay:Operand->Option J}:∀{l:List Operand}{bj:List J},pO ay l=some bj->
 bj.length=l.length/\∀(i:Nat) x,l[i]? =some x->∃v,bj[i]? =some v/\ay x=some v:=by
 intro l
 induction l with
 |nil=>intro bj a;simp[pO]at a;subst a;simp
 |cons x l am=>
  intro bj a
  simp only[pO]at a
  cases ah:ay x with
  |none=>simp[ah]at a
  |some v=>
   cases aD:pO ay l with
   |none=>simp[ah,aD]at a
   |some r=>
    simp[ah,aD]at a;subst a
    obtain⟨K,b⟩:=am aD
    refine⟨by simp[K],λi e H=> ?_⟩
    cases i with
    |zero=>simp at H;subst H;exact⟨v,Zs,ah⟩
    |succ i=>simp at H;simpa using b i e H
def adr{ay:Operand->Value}{eG:Operand->Option J}{l:List Operand}{bj:List J}(cA:jj S af ay eG l)(T:bj.length=l.length)
 (W:∀(i:Nat) x,l[i]? =some x->∃v,bj[i]? =some v/\eG x=some v):l.map ay=b2 S bj/\eA af bj:=by
 constructor
 ·rw[pL]
  apply YN
  intro i
  rw[Zt,Zt]
  cases ah:l[i]? with
  |none=>
   have:l.length<=i:=by simpa using ah
   rw[ZU Zo];rfl
  |some x=>
   obtain⟨v,bD,bA⟩:=W i x ah
   rw[bD]
   simp[(cA x (Zn ah) v bA).1]
 ·rw[uN]
  intro v bD
  obtain⟨i,aN⟩:=ZY.1 bD
  have c4:i<l.length:=zo (Zc.1 aN).1
  obtain⟨ae,be,bA⟩:=W i l[i] (Ze c4)
  rw[aN]at be;simp at be;subst be
  exact(cA _ (List.getElem_mem c4) v bA).2
def wK{ay:Operand->Value}{eG:Operand->Option J}{K:Array Operand}{bj:List J}(cA:jj S af ay eG K.toList)(a:pO eG K.toList=some bj):
 K.map ay=(b2 S bj).toArray/\eA af bj:=by
 obtain⟨T,W⟩:=amG a
 obtain⟨au,aP⟩:=adr cA T W
 refine⟨?_,aP⟩
 apply YY
 simp[au]
def afy(F:IntKind)(n:Int):pA F n=F.wrap n:=by
 cases F<;>simp only[pA]<;>try rfl
 simp only[fG,IntKind.wrap,IntKind.bits,IntKind.signed,Zg,Bool.true_and,ge_iff_le]
 have bH:((2:Int)^64)=18446744073709551616:=by decide
 have cP:((2:Int)^(64-1))=9223372036854775808:=by decide
 rw[bH,cP]
 by_cases a:n%18446744073709551616<9223372036854775808
 ·rw[Zr a,Zh (by simpa using a)]
 ·rw[Zh a,Zr (by simpa using a)]
@[simp] def aAX(F:IntKind)(n:Int):k9 F n=some (.int F (F.wrap n)):=by simp[k9,afy]
@[simp] def acz(F:IntKind)(n:Int):p3 F n=some (.int F n):=by simp[p3]
@[simp] def wM(b:Bool):n3 b=some (.bool b):=by cases b<;>rfl
@[simp] def E9{α:Type _}(c:Bool)(K:Option α)(v:α):bV c none K=some v↔c=false/\K=some v:=by cases c<;>simp
@[simp] def Gh(x e:Int):xw x e=decide (x=e):=by
  rw[Yf,Zg]
  cases x<;>cases e
  ·exact⟨λa=>by rw[Zj a],λa=>by cases a;exact Y8 _⟩
  ·exact⟨(λa=>by cases a),(λa=>by cases a)⟩
  ·exact⟨(λa=>by cases a),(λa=>by cases a)⟩
  ·exact⟨λa=>by rw[Zj a],λa=>by cases a;exact Y8 _⟩
@[simp] def tW(x e:Int):y2 x e=decide (x<e):=by
  rw[Yf,Zg]
  cases x with
  |ofNat K=>cases e with
   |ofNat b=>show Nat.blt K b=true↔(K:Int)<(b:Int);simp[Nat.blt];omega
   |negSucc b=>show false=true↔(K:Int)<Int.negSucc b;simp;omega
  |negSucc K=>cases e with
   |ofNat b=>show true=true↔Int.negSucc K<(b:Int);simp;omega
   |negSucc b=>show Nat.blt b K=true↔Int.negSucc K<Int.negSucc b;simp[Nat.blt];omega
@[simp] def acS(F fa:IntKind):mq F fa=decide (F=fa):=by cases F<;>cases fa<;>rfl
@[simp] def akX(K b:Bool):E0 K b=(K==b):=by cases K<;>cases b<;>rfl
def aj6{op:BinOp}{F:IntKind}{x e:Int}{v:J}(t:TypeId)(a:lJ op F x e=some v)(aI:l0 op=false):
 (binOp op t (.int F x) (.int F e)).run C.P w= .ok (aS S v) w/\cn af v:=by
 cases op<;>simp[lJ,l0,binOp,Op.intArith,Op.intDiv,Op.intBits,Op.intCmp]at a aI ⊢ <;>
  first
  |(subst a;simp[aS,cn];done)
  |(obtain⟨T,a⟩:=a;subst a;simp[aS,cn,T];done)
  |(subst a;exact⟨rfl,trivial⟩)
  |(subst a;refine⟨?_,trivial⟩;simp only[aS];congr 1;rw[Yf];simp;done)
def akd{op:BinOp}{F fa:IntKind}{x e:Int}{v:J}(t:TypeId)(a:HL op F x e=some v):
 (binOp op t (.int F x) (.int fa e)).run C.P w= .ok (aS S v) w/\cn af v:=by
 unfold HL at a
 simp only[tW,E9,Zb]at a
 obtain⟨T,a⟩:=a
 cases op<;>simp[binOp,Op.shift,T]at a ⊢
 all_goals(subst a;simp[aS,cn])
def WA{op:BinOp}{x e v:J}(t:TypeId)(a:aC op x e=some v):
 (binOp op t (aS S x) (aS S e)).run C.P w= .ok (aS S v) w/\cn af v/\∃F K fa b,x= .int F K/\e= .int fa b:=by
 unfold aC at a
 split at a
 ·rename_i F K fa b
  simp only[aS]
  by_cases aI:l0 op=true
  ·simp only[aI,e6]at a
   obtain⟨bH,cP⟩:=akd (C:=C) (S:=S) (af:=af) (w:=w) (fa:=fa) t a
   exact⟨bH,cP,_,_,_,_,rfl,rfl⟩
  ·have aI:l0 op=false:=by simpa using aI
   simp only[aI,jz,acS,e5,Zg]at a
   obtain⟨rfl,a⟩:=a
   obtain⟨bH,cP⟩:=aj6 (C:=C) (S:=S) (af:=af) (w:=w) t a aI
   exact⟨bH,cP,_,_,_,_,rfl,rfl⟩
 ·simp at a
def KU(S:da)(af:Nat->Prop)(P:Program)(w:World)(s:Sem Next)(v:J):Prop:=s.run P w= .ok (.value (aS S v)) w/\cn af v
def n0{P:Program}{s:Sem Value}{v:J}(a:s.run P w= .ok (aS S v) w/\cn af v):KU S af P w (do pure (.value (<-s))) v:=by
 refine⟨?_,a.2⟩
 simp[a.1]
def WC(Z:dt C S af h j bm w){t:TypeId}(bb:DA C t=some false){K v:J}(aE:cn af K)(a:al C h K=some v):
 (Instr.loadAt t (aS S K)).run C.P w= .ok (aS S v) w/\cn af v:=by
 unfold al at a
 split at a
 ·rename_i b Y
  split at a
  ·rename_i c aB
   obtain⟨T,W⟩:=Xb Z aE aB a
   refine⟨?_,W⟩
   simp[Instr.loadAt,Instr.sureAddr,aS,loadVar,N5 bb,T]
  ·simp at a
 ·simp at a
def WD(Z:dt C S af h j bm w){t:TypeId}{n:Nat}(bb:DA C t=some true)(aI:ji C t=some n){K v:J}(aE:cn af K)(a:bM C h n K=some v):
 (Instr.loadAt t (aS S K)).run C.P w= .ok (aS S v) w/\cn af v:=by
 unfold bM at a
 split at a
 ·rename_i b Y
  split at a
  ·rename_i c aB
   split at a
   ·rename_i l aD
    simp at a;subst a
    obtain⟨T,W⟩:=Ll Z aE aB aD
    refine⟨?_,W⟩
    simp[Instr.loadAt,Instr.sureAddr,aS,loadVar,N5 bb,pr aI,T]
   ·simp at a
  ·simp at a
 ·simp at a
def WE(Z:dt C S af h j bm w){t:TypeId}{K v:J}(aE:cn af K)(a:lK C h t K=some v):
 (Instr.loadAt t (aS S K)).run C.P w= .ok (aS S v) w/\cn af v:=by
 unfold lK at a
 split at a
 ·rename_i s T W;exact WD Z T W aE a
 ·rename_i T;exact WC Z T aE a
 ·simp at a
def lo{K b:Nat}(a:Nat.blt K b=true):K<b:=by simp[Nat.blt]at a;omega
def jm{K b:Nat}(a:Nat.ble K b=true):K<=b:=by simpa using a
def DR{v:J}{n:Nat}(a:nc v=some n):∃F,v= .int F (Int.ofNat n):=by
 unfold nc at a
 split at a
 ·rename_i F bu
  split at a
  ·simp at a;subst a;exact⟨F,rfl⟩
  ·simp at a
 ·simp at a
def amS{s:TypeId}{jS:Array Field}{f bu:Nat}{se:Field}(be:C.P.underlying s=some (.struct jS))(b9:jS.toList[f]? =some se)
 (cw:ji C se.type=some bu)(lx:bu≠0){K v:J}(aE:cn af K)(a:a1 se.offset K=some v):
 (Instr.fieldAt s (aS S K) f).run C.P w= .ok (aS S v) w/\cn af v:=by
 unfold a1 at a
 split at a
 ·rename_i b Y
  simp at a;subst a
  have qw:jS[f]? =some se:=by rw[<-b9];simp
  refine⟨?_,aE⟩
  simp[Instr.fieldAt,run_underlying be,qw,Instr.sureAddr,aS,fieldPlace,pr cw,lx,rb,ZN]
 ·simp at a
def asE{t:TypeId}{n br i:Nat}{ep:TypeId}(be:C.P.underlying t=some (.array n ep))(cw:ji C ep=some br)
 {K v:J}{F:IntKind}(aE:cn af K)(a:KQ n br K i=some v):
 (Instr.indexAt t (aS S K) (.int F (Int.ofNat i))).run C.P w= .ok (aS S v) w/\cn af v:=by
 unfold KQ at a
 split at a
 ·rename_i b Y
  simp only[e5,Zf]at a
  obtain⟨T,rfl⟩:=a
  have c4:i<n:=lo T
  refine⟨?_,aE⟩
  simp[Instr.indexAt,asIntOf,run_underlying be,Instr.sureAddr,aS,pr cw,c4,rb,ZN]
 ·simp at a
def asH{t:TypeId}{br i:Nat}{ep:TypeId}(be:C.P.underlying t=some (.slice ep))(cw:ji C ep=some br)
 {K v:J}{F:IntKind}(aE:cn af K)(a:Ck br K i=some v):
 (Instr.indexAt t (aS S K) (.int F (Int.ofNat i))).run C.P w= .ok (aS S v) w/\cn af v:=by
 unfold Ck at a
 split at a
 ·rename_i b Y n _
  simp only[e5,Zf]at a
  obtain⟨T,rfl⟩:=a
  have c4:i<n:=lo T
  refine⟨?_,aE⟩
  simp[Instr.indexAt,asIntOf,run_underlying be,aS,pr cw,c4,rb,ZN]
 ·rename_i b Y n _
  simp only[e5,Zf]at a
  obtain⟨T,rfl⟩:=a
  have c4:i<n:=lo T
  refine⟨?_,aE⟩
  simp[Instr.indexAt,asIntOf,run_underlying be,aS,pr cw,c4,rb,ZN]
 ·simp at a
def ayZ{K v:J}(aE:cn af K)(a:cl K=some v):v=K/\(∀oper:Oper,∀ay:Operand->Value,∀x,oper.op= .nilCheck x->ay x=aS S K->(execOp ay oper).run C.P w= .ok (.value (aS S v)) w):=by
 unfold cl at a
 split at a
 ·simp at a;subst a
  refine⟨rfl,λoper ay x bl ah=> ?_⟩
  simp[execOp,bl,ah,aS]
 ·split at a
  ·simp at a;subst a
   refine⟨rfl,λoper ay x bl ah=> ?_⟩
   simp[execOp,bl,ah,aS,m2]
  ·simp at a;subst a
   refine⟨rfl,λoper ay x bl ah=> ?_⟩
   simp[execOp,bl,ah,aS,m2]
  ·simp at a
 ·simp at a;subst a
  refine⟨rfl,λoper ay x bl ah=> ?_⟩
  simp[execOp,bl,ah,aS]
 ·simp at a
def ayY{i:Nat}{K v:J}(aE:cn af K)(a:cK i K=some v):(Instr.extract (aS S K) i).run C.P w= .ok (aS S v) w/\cn af v:=by
 unfold cK at a
 split at a
 ·rename_i bj
  rw[pn]at a
  refine⟨?_,(uN af bj).1 aE v (Zn a)⟩
  simp[Instr.extract,aS,pL,a]
 ·simp at a
def XS{ay:Operand->Value}{eG:Operand->Option J}:∀{l:List (Nat×Operand)}{du:List (Nat×J)},jj S af ay eG (l.map (·.2))->yr eG l=some du->
 l.map (λx=>(x.1,ay x.2))=du.map (λx=>(x.1,aS S x.2))/\∀x∈du,cn af x.2:=by
 intro l
 induction l with
 |nil=>intro du _ a;simp[yr]at a;subst a;simp
 |cons K l am=>
  intro du cA a
  obtain⟨i,x⟩:=K
  simp only[yr]at a
  cases ah:eG x with
  |none=>simp[ah]at a
  |some v=>
   cases aD:yr eG l with
   |none=>simp[ah,aD]at a
   |some r=>
    simp[ah,aD]at a;subst a
    obtain⟨K,b⟩:=am (λe H=>cA e (by simp at H ⊢;exact .inr H)) aD
    obtain⟨c,d⟩:=cA x Zs v ah
    refine⟨by simp[K,c],λe H=> ?_⟩
    cases H with
    |head=>exact d
    |tail _ H=>exact b e H
def uz(S:da)(v:J):(aS S v).cells=(b2 S v.cells).toArray:=by
 cases v<;>simp[aS,Value.cells,J.cells,b2]
def uA{v:J}(a:cn af v):eA af v.cells:=by
 cases v with
 |agg cs=>exact a
 |_=>exact⟨a,trivial⟩
def am6(S:da):∀(bj:List J) (cs:List J) (off F:Nat),
 ((b2 S bj).zipIdx F).foldl (λ(cs:Array Value) (x:Value×Nat)=>cs.setIfInBounds (off+x.2) x.1) (b2 S cs).toArray=(b2 S (lD cs (off+F) bj)).toArray:=by
 intro bj
 induction bj with
 |nil=>intro cs off F;rfl
 |cons v bj am=>
  intro cs off F
  simp only[b2,List.zipIdx_cons,YE,lD]
  have:(b2 S cs).toArray.setIfInBounds (off+F) (aS S v)=(b2 S (cs.set (off+F) v)).toArray:=by
   apply YY
   simp[pL,List.map_set]
  rw[this,am]
  rfl
def an4{cs:List J}{i:Nat}{v:J}(a:eA af cs)(bD:cn af v):eA af (cs.set i v):=by
 rw[uN]at a ⊢
 intro x ah
 rcases List.mem_or_eq_of_mem_set ah with cz|cz
 ·exact a x cz
 ·rw[cz];exact bD
def an5:∀(bj cs:List J) (Y:Nat),eA af cs->eA af bj->eA af (lD cs Y bj):=by
 intro bj
 induction bj with
 |nil=>intro cs Y a _;exact a
 |cons v bj am=>intro cs Y a bD;exact am _ _ (an4 a bD.1) bD.2
def P0{G1 Kl:Nat->Option (Nat×Nat)}(aA:∀i x,G1 i=some x->Kl i=some x):∀(du:List (Nat×J)) (cs r:List J),eA af cs->(∀x∈du,cn af x.2)->
 AY G1 cs du=some r->Instr.fill Kl (b2 S cs).toArray (du.map λx=>(x.1,aS S x.2))=some (b2 S r).toArray/\eA af r:=by
 intro du
 induction du with
 |nil=>intro cs r a _ b9;simp[AY]at b9;subst b9;exact⟨rfl,a⟩
 |cons p du am=>
  intro cs r a b0 b9
  obtain⟨i,v⟩:=p
  simp only[AY]at b9
  cases sy:G1 i with
  |none=>simp[sy]at b9
  |some x=>
   obtain⟨off,size⟩:=x
   simp only[sy,e5,Zp]at b9
   obtain⟨⟨T,W⟩,b9⟩:=b9
   have T:v.cells.length=size:=Zj T
   have W:off+size<=cs.length:=jm W
   have aqe:cn af v:=b0 (i,v) Zs
   obtain⟨K,b⟩:=am (lD cs off v.cells) r (an5 _ _ _ a (uA aqe)) (λx ah=>b0 x (by simp[ah])) b9
   refine⟨?_,b⟩
   simp only[ZR,Instr.fill,aA _ _ sy,uz]
   have fL:(b2 S v.cells).length=size:=by rw[pL,Zi,T]
   have vc:(b2 S cs).length=cs.length:=by rw[pL,Zi]
   rw[Zh]
   ·rw[<-K]
    congr 1
    have:=am6 S v.cells cs off 0
    simp
    simpa using this
   ·simp[fL,vc];omega
def awR{α eP:Type}(P:Program)(w:World)(f:α->Sem eP)(g:α->eP):∀(l:List α),(∀K∈l,(f K).run P w= .ok (g K) w)->(l.mapM f).run P w= .ok (l.map g) w:=by
 intro l
 induction l with
 |nil=>intro _;simp
 |cons K l am=>intro a;simp[Y4,a K Zs,am (λb ai=>a b (by simp[ai]))]
def axX{jS:List Field}{i:Nat}{x:Nat×Nat}(a:TN C jS i=some x):∃f s,jS[i]? =some f/\ji C f.type=some s/\x=(f.offset,s):=by
 unfold TN at a
 rw[pn]at a
 split at a
 ·rename_i f b9
  split at a
  ·rename_i s aI
   simp at a
   exact⟨f,s,b9,aI,a.symm⟩
  ·simp at a
 ·simp at a
def HK{t:TypeId}{cs:List J}{off:Nat}{v:J}(b0:eA af cs)(a:Cx C t cs off=some v):
 (part t (b2 S cs).toArray off).run C.P w= .ok (aS S v) w/\cn af v:=by
 unfold Cx at a
 split at a
 ·rename_i s T W
  simp at a;subst a
  constructor
  ·simp only[part,Sem.run_bind,N5 T,Result.andThen_ok,ZD,pr W,Sem.run_pure,aS,pL]
   congr 2
   apply YY
   simp[List.map_take,List.map_drop,List.take_drop]
  ·simp only[cn]
   rw[uN]at b0 ⊢
   exact λx ah=>b0 x (Y5 (Y6 ah))
 ·rename_i T
  rw[pn]at a
  constructor
  ·simp[part,N5 T,pL,a]
  ·exact(uN af cs).1 b0 v (Zn a)
 ·simp at a
def aj5{t:TypeId}{x i v:J}(ah:cn af x)(a:K9 C t x i=some v):(Instr.index t (aS S x) (aS S i)).run C.P w= .ok (aS S v) w/\cn af v:=by
 unfold K9 at a
 split at a
 ·simp at a
 ·rename_i n aM
  obtain⟨F,rfl⟩:=DR aM
  split at a
  ·rename_i m ep cs be
   split at a
   ·rename_i br cw
    simp only[e5]at a
    obtain⟨T,W⟩:=a
    have c4:=lo T
    obtain⟨au,aP⟩:=HK (S:=S) (w:=w) ah W
    refine⟨?_,aP⟩
    simp[Instr.index,asIntOf,aS,run_underlying be,c4,pr cw,au]
   ·simp at a
  ·rename_i s be
   rw[pn]at a
   split at a
   ·rename_i c aB
    simp at a;subst a
    refine⟨?_,trivial⟩
    have ai:(f4 s)[n]? =some (UInt8.ofNat c):=by
     show(f4 s).data[n]? =_
     simp[f4,aB]
    have c4:c<256:=ah c (Zn aB)
    simp[Instr.index,asIntOf,aS,run_underlying be,ai,YF c4]
   ·simp at a
  ·simp at a
def akh{op:UnOp}{x v:J}(a:fe op x=some v):(Op.unary op (aS S x)).run C.P w= .ok (aS S v) w/\cn af v:=by
 unfold fe at a
 split at a
 ·rename_i F n
  simp[lJ]at a;subst a
  exact⟨by simp[Op.unary,Op.intArith,aS],trivial⟩
 ·rename_i F n
  simp[lJ]at a;subst a
  exact⟨rfl,trivial⟩
 ·simp at a;subst a;exact⟨rfl,trivial⟩
 ·simp at a
def auX:∀{l:List Field},NH C l=true->∀f∈l,∃s,ji C f.type=some s:=by
 intro l
 induction l with
 |nil=>intro _ f b9;simp at b9
 |cons K l am=>
  intro a f b9
  simp only[NH,Zp]at a
  cases b9 with
  |head=>cases aI:ji C K.type with
   |none=>simp[aI]at a
   |some s=>exact⟨s,rfl⟩
  |tail _ b9=>exact am a.2 f b9
def ajZ{t:TypeId}{du:List (Nat×J)}{v:J}(b0:∀x∈du,cn af x.2)(a:K6 C t du=some v):
 (Instr.build t ((du.map λx=>(x.1,aS S x.2)).toArray)).run C.P w= .ok (aS S v) w/\cn af v:=by
 unfold K6 at a
 split at a
 ·simp at a
 ·rename_i bu cw
  obtain⟨Gd,Ge⟩:=Eg cw S af w
  split at a
  ·rename_i jS be
   simp only[e5]at a
   obtain⟨fM,a⟩:=a
   split at a
   ·rename_i cs h6
    simp at a;subst a
    have bs:(jS.mapM λf=>do pure (f.offset, <-sizeOf f.type):Sem (Array (Nat×Nat))).run C.P w= .ok (jS.toList.map λf=>(f.offset,(ji C f.type).getD 0)).toArray w:=by
     rw[Array.mapM_eq_mapM_toList,Sem.run_map,awR C.P w _ (λf:Field=>(f.offset,(ji C f.type).getD 0)) _ (λf b9=>by
      obtain⟨s,aI⟩:=auX fM f b9
      simp[pr aI,aI])]
     rfl
    obtain⟨K,b⟩:=P0 (S:=S) (Kl:=λi=>((jS.toList.map λf=>(f.offset,(ji C f.type).getD 0)).toArray)[i]?) (λi x ah=>by
     obtain⟨f,s,T,W,rfl⟩:=axX ah
     simp at T
     simp[T,W]) du bu.cells cs (uA Ge) b0 h6
    refine⟨?_,b⟩
    simp only[Instr.build,Sem.run_bind,Gd,Result.andThen_ok,run_underlying be,bs,uz,K,aS,Sem.run_pure]
   ·simp at a
  ·rename_i n ep be
   split at a
   ·rename_i s aI
    split at a
    ·rename_i cs h6
     simp at a;subst a
     obtain⟨K,b⟩:=P0 (S:=S) (Kl:=λi=>some (i*s,s)) (λ_ _ a=>a) du bu.cells cs (uA Ge) b0 h6
     refine⟨?_,b⟩
     simp[Instr.build,Gd,run_underlying be,pr aI,uz,K,aS]
    ·simp at a
   ·simp at a
  ·simp at a
end
end Go.bk

namespace Go.bk
open Go.RowKit (Below)
section
variable{C:a2}{S:da}{af:Nat->Prop}{h:V an}{j bm:Nat}{w:World}
def adN{K b:Nat}(aE:K<256)(ai:b<256)(a:UInt8.ofNat K=UInt8.ofNat b):K=b:=by
 have:=congrArg UInt8.toNat a
 simp at this
 omega
def Ka:∀(x e:List Nat),mS x e=true↔x=e
 |[],[]=>by simp[mS]
 |[],_::_=>by simp[mS]
 |_::_,[]=>by simp[mS]
 |K::x,b::e=>by
  simp only[mS,Zp,Ka x e,YI]
  exact⟨λ⟨a,I⟩=>⟨Zj a,I⟩,λ⟨a,I⟩=>⟨by rw[a];exact Y8 _,I⟩⟩
def aua:∀{x e:List Nat},(∀K∈x,K<256)->(∀K∈e,K<256)->x.map UInt8.ofNat=e.map UInt8.ofNat->x=e:=by
 intro x
 induction x with
 |nil=>intro e _ _ a;cases e with
  |nil=>rfl
  |cons b e=>simp at a
 |cons K x am=>
  intro e ah H a
  cases e with
  |nil=>simp at a
  |cons b e=>
   simp only[ZR,YI]at a
   rw[adN (ah K Zs) (H b Zs) a.1,am (λc aB=>ah c (by simp[aB])) (λc aB=>H c (by simp[aB])) a.2]
def Li(s:List Nat):(f4 s).toList=s.map UInt8.ofNat:=by
 rw[ByteArray.toList_eq];simp[f4]
def TM{x e:List Nat}(ah:∀K∈x,K<256)(H:∀K∈e,K<256):((f4 x).toList==(f4 e).toList)=mS x e:=by
 rw[Yf,Ka,YZ,Li,Li]
 exact⟨aua ah H,λa=>by rw[a]⟩
def aeW:∀{x e:List Nat},(∀K∈x,K<256)->(∀K∈e,K<256)->Op.bytesLess (x.map UInt8.ofNat) (e.map UInt8.ofNat)=BS x e
 |[],[],_,_=>rfl
 |[],_::_,_,_=>rfl
 |_::_,[],_,_=>rfl
 |K::x,b::e,ah,H=>by
  have aE:=ah K Zs
  have ai:=H b Zs
  have am:=aeW (λc aB=>ah c (Zu _ aB)) (λc aB=>H c (Zu _ aB))
  simp only[ZR,Op.bytesLess,BS,am]
  have bH:decide (UInt8.ofNat K<UInt8.ofNat b)=Nat.blt K b:=by
   rw[Yf,Zg,UInt8.lt_iff_toNat_lt]
   simp[Nat.blt,YF aE,YF ai];omega
  have cP:(UInt8.ofNat K==UInt8.ofNat b)=Nat.beq K b:=by
   rw[Yf,YZ]
   exact⟨λa=>by rw[adN aE ai a];exact Y8 _,λa=>by rw[Zj a]⟩
  rw[bH,cP]
def NW(Z:dt C S af h j bm w){b Y:Nat}(ai:af b)(a:BN C h b Y=true):
 ∃c n st cq ty bU aN,ab C h b=some (.cells c n st)/\Y<n/\w.heap[(S b).cI]? =some (.cells cq ty (bU,aN))/\EK st n (S b) cq.size bU aN/\(S b).ek+n<=cq.size/\st≠ .j6:=by
 unfold BN at a
 split at a
 ·simp at a
 ·rename_i c n st k7 bl
  obtain⟨cq,ty,bU,aN,T,W,au,_⟩:=Z.obj b _ bl ai
  exact⟨c,n,st,cq,ty,bU,aN,bl,lo (by simpa using a),T,W,au,λI=>(by subst I;first|exact k7 _ bl|exact k7 _ rfl|exact k7 rfl|exact k7 bl|simp_all)⟩
 ·simp at a
def adW{b Y:Nat}(a:GZ C h b Y=true):BN C h b Y=true/\C.ba<=b/\∃c n,ab C h b=some (.cells c n .own):=by
 unfold GZ at a
 unfold BN
 split at a
 ·rename_i c n bl
  simp only[bl,Zp]at a ⊢
  exact⟨a.2,jm a.1,c,n,rfl⟩
 ·simp at a
def Ts{r:Nat}{cq:Array Value}{ty:TypeId}{f:Nat×Nat}(a:w.heap[r]? =some (.cells cq ty f)):w.shape? r=some (ty,cq.size):=by
 simp[World.shape?,a]
def aeF{P:Program}{p ao:Nat}{x e:Nat}{bf ck:Array Value}{t1 eF:TypeId}{en T c5 W:Nat}(dT:p≠ao)
 (bH:w.heap[p]? =some (.cells bf t1 (en,T)))(cP:w.heap[ao]? =some (.cells ck eF (c5,W)))(eS:T<=en)(gS:x<bf.size)(hs:e<ck.size)(e2:W<=c5\/ck.size<=c5):
 (sameAddr ⟨p,x,none⟩ ⟨ao,e,none⟩).run P w= .ok false w/\(sameAddr ⟨ao,e,none⟩ ⟨p,x,none⟩).run P w= .ok false w:=by
 have b5:w.frozen? ⟨p,x,none⟩=false:=by simp[World.frozen?,bH];omega
 have cd:w.frozen? ⟨ao,e,none⟩=false:=by simp[World.frozen?,cP];omega
 have c0:w.frozen? ⟨p,bf.size,none⟩=false:=by simp[World.frozen?,bH];omega
 have j5:=Ts bH
 have kQ:=Ts cP
 have f2:bf.size≠0:=Zo
 have fF:ck.size≠0:=Zo
 have aqH:ao≠p:=λI=>dT I.symm
 constructor
 ·simp[sameAddr,dT,b5,cd,c0,noView,viewAt,j5,kQ,mayBeOne,stringish,fF]
 ·simp[sameAddr,aqH,b5,cd,c0,noView,viewAt,j5,kQ,mayBeOne,stringish,f2,fF]
def avT(Z:dt C S af h j bm w){b Y dN o':Nat}{r:Bool}(ai:af b)(jV:af dN)(a:ptrEq C h b Y dN o'=some r):
 (sameAddr ⟨(S b).cI,(S b).ek+Y,none⟩ ⟨(S dN).cI,(S dN).ek+o',none⟩).run C.P w= .ok r w:=by
 unfold ptrEq at a
 rw[hO]at a
 split at a
 ·rename_i I
  subst I
  simp at a;subst a
  simp only[sameAddr,Yk,ZD,Sem.run_pure]
  congr 1
  rw[Yf,YZ]
  constructor
  ·intro a;simp at a;rw[a];exact Y8 _
  ·intro a;rw[Zj a]
 ·rename_i dT
  simp only[e5,zf,Zp,Zf]at a
  obtain⟨a,rfl⟩:=a
  rcases a with ⟨T,W⟩|⟨T,W⟩
  ·obtain⟨au,aP,c,n,bK⟩:=adW T
   obtain⟨dy,aJ,TH,bf,t1,en,wh,bH,gS,Hm,f2,bY,_⟩:=NW Z ai au
   obtain⟨dZ,bc,axw,ck,eF,c5,Hk,cP,hs,Hn,fF,cx,S3⟩:=NW Z jV W
   have dp:TH= .own:=by rw[bK]at bH;cases bH;rfl
   subst dp
   have Q1:(S b).cI≠(S dN).cI:=by
    intro I
    rcases(Z.sep b dN _ _ bH cP ai jV dT aP I).1 with ⟨_,_,_,_,ao,_⟩|⟨_,_,_,_,_,ao,_⟩|⟨_,_,_,_,_,_,ao,_⟩<;>cases ao
   exact(aeF Q1 Hm Hn (Y7 f2.symm) Zo Zo (fF.free S3)).1
  ·obtain⟨au,aP,c,n,bK⟩:=adW T
   obtain⟨dy,aJ,TH,bf,t1,en,wh,bH,gS,Hm,f2,bY,_⟩:=NW Z jV au
   obtain⟨dZ,bc,axw,ck,eF,c5,Hk,cP,hs,Hn,fF,cx,S3⟩:=NW Z ai W
   have dp:TH= .own:=by rw[bK]at bH;cases bH;rfl
   subst dp
   have Q1:(S dN).cI≠(S b).cI:=by
    intro I
    rcases(Z.sep dN b _ _ bH cP jV ai (λao=>dT ao.symm) aP I).1 with ⟨_,_,_,_,ao,_⟩|⟨_,_,_,_,_,ao,_⟩|⟨_,_,_,_,_,_,ao,_⟩<;>cases ao
   exact(aeF Q1 Hm Hn (Y7 f2.symm) Zo Zo (fF.free S3)).2
def aj2{eq:Nat->J->J->Option Bool}{d:Nat}(ff:∀t x e r,cn af x->cn af e->eq t x e=some r->(Op.equalIn d t (aS S x) (aS S e)).run C.P w= .ok r w):
 ∀(jC:List Field) (cp nT:List J) (r:Bool),eA af cp->eA af nT->Cw C eq jC cp nT=some r->(Op.eqFields d (b2 S cp).toArray (b2 S nT).toArray jC).run C.P w= .ok r w:=by
 intro jC
 induction jC with
 |nil=>intro cp nT r _ _ a;simp[Cw]at a;subst a;simp[Op.eqFields]
 |cons f jC am=>
  intro cp nT r ah H a
  simp only[Cw,E9,beq_eq_false_iff_ne]at a
  obtain⟨aM,a⟩:=a
  split at a
  ·rename_i K b aE ai
   obtain⟨bf,ck⟩:=HK (S:=S) (w:=w) ah aE
   obtain⟨cT,dL⟩:=HK (S:=S) (w:=w) H ai
   split at a
   ·rename_i I
    simp only[Op.eqFields,aM,ne_eq,ZF,ZD,Sem.run_bind,bf,cT,ff _ _ _ _ ck dL I,Result.andThen_ok,Yi,Zx,ZA]
    exact am cp nT r ah H a
   ·rename_i I
    simp at a;subst a
    simp only[Op.eqFields,aM,ne_eq,ZF,ZD,Sem.run_bind,bf,cT,ff _ _ _ _ ck dL I,Result.andThen_ok,Yg,Sem.run_pure]
   ·simp at a
  ·simp at a
def O9(Z:dt C S af h j bm w):∀(d lq:Nat) (t:Nat) (x e:J) (r:Bool),d<=lq->cn af x->cn af e->ks C h d t x e=some r->
 (Op.equalIn lq t (aS S x) (aS S e)).run C.P w= .ok r w:=by
 intro d
 induction d with
 |zero=>intro lq t x e r _ _ _ a;simp[ks]at a
 |succ d am=>
  intro lq t x e r aO fI uQ a
  obtain⟨lq,rfl⟩:∃I,lq=I+1:=⟨lq-1,Zo⟩
  unfold ks at a
  split at a
  ·rename_i be;simp at a;subst a;simp[Op.equalIn,run_underlying be,aS]
  ·rename_i be;simp at a;obtain⟨rfl,rfl⟩:=a;simp[Op.equalIn,run_underlying be,aS];rfl
  ·rename_i K b be
   simp at a;subst a
   rw[aS,aS,run_equalIn_string w lq t _ _ be,TM fI uQ]
  ·rename_i be;simp at a;subst a;simp[Op.equalIn,run_underlying be,aS]
  ·rename_i be;simp at a;subst a;simp[Op.equalIn,run_underlying be,aS]
  ·rename_i be;simp at a;subst a;simp[Op.equalIn,run_underlying be,aS]
  ·rename_i I b Y dN o' be
   split at a
   ·rename_i s aI
    rw[hO]at a
    split at a
    ·simp at a
    ·rename_i M0
     have:=avT Z fI uQ a
     simp[Op.equalIn,run_underlying be,aS,pr aI,M0,this]
   ·simp at a
  ·rename_i be;simp at a;subst a;simp[Op.equalIn,run_underlying be,aS]
  ·rename_i be;simp at a;subst a;simp[Op.equalIn,run_underlying be,aS]
  ·rename_i be;simp at a;subst a;simp[Op.equalIn,run_underlying be,aS]
  ·rename_i KE Oo ty Oq be
   rw[hO]at a
   split at a
   ·rename_i I
    subst I
    split at a
    ·rename_i i aN
     simp only[e5]at a
     obtain⟨aB,a⟩:=a
     have:=am lq KE Oo Oq r Zo fI uQ a
     simp[Op.equalIn,run_underlying be,aS,typeInfo,aN,aB,this]
    ·simp at a
   ·rename_i I
    simp at a;subst a
    simp[Op.equalIn,run_underlying be,aS,I]
  all_goals first
   |(rename_i be;simp at a;subst a;simp[Op.equalIn,run_underlying be,aS];done)
   |skip
  ·rename_i jS cp nT be
   simp only[E9]at a
   obtain⟨aA,a⟩:=a
   have b9:C.P.fieldsOf t=jS:=by simp[Program.fieldsOf,be]
   rw[aS,aS,run_equalIn_struct w lq t _ _ (by rw[b9];exact be) aA,b9]
   exact aj2 (λt x e r fI uQ a=>am lq t x e r Zo fI uQ a) _ _ _ _ fI uQ a
  ·simp at a
end
end Go.bk

