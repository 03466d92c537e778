/- Part of the proof of the last text; no conditions -/
import GoSem.Step
import Derived.Below
import Derived.ChangeKeysEq
import Derived.Laws.IdiomCopy
import Derived.Laws.Unary
import Derived.Laws.Wrap64
import Derived.Laws.StructEq
import Derived.Laws.BytesString
set_option maxHeartbeats 8000000
set_option linter.all false
namespace Go
def Zo{p:Prop}(h:p:=by omega):p:=h
def Za{p q:Prop}(a:p)(b:q):p/\q:=⟨a,b⟩
def Zd{p:Prop}(h:p:=by decide):p:=h
def Zs{p:Prop}(h:p:=by simp):p:=h
def Zx{p:Prop}(h:p:=by simp;omega):p:=h
def Zk{p:Prop}(h:p:=by kernel_rfl):p:=h
def Zb:type_of%@decide_eq_false_iff_not:=@decide_eq_false_iff_not
def Zc:type_of%@List.getElem?_eq_some_iff:=@List.getElem?_eq_some_iff
def Ze:type_of%@List.getElem?_eq_getElem:=@List.getElem?_eq_getElem
def Zf:type_of%@Option.some.injEq:=@Option.some.injEq
def Zg:type_of%@decide_eq_true_eq:=@decide_eq_true_eq
def Zh:type_of%@if_neg:=@if_neg
def Zi:type_of%@List.length_map:=@List.length_map
def Zj:type_of%@Nat.le_refl:=@Nat.le_refl
def Zl:type_of%@List.mem_of_getElem?:=@List.mem_of_getElem?
def Zn:type_of%@Nat.eq_of_beq_eq_true:=@Nat.eq_of_beq_eq_true
def Zp:type_of%@Bool.and_eq_true:=@Bool.and_eq_true
def Zq:type_of%@List.drop_eq_getElem_cons:=@List.drop_eq_getElem_cons
def Zr:type_of%@if_pos:=@if_pos
def Zt:type_of%@List.mem_cons:=@List.mem_cons
def Zu:type_of%@List.getElem?_map:=@List.getElem?_map
def Zv:type_of%@List.mem_cons_self:=@List.mem_cons_self
def Zw:type_of%@List.mem_cons_of_mem:=@List.mem_cons_of_mem
def Zy:type_of%@Bool.false_eq_true:=@Bool.false_eq_true
def Zz:type_of%@List.mem_append:=@List.mem_append
def ZA:type_of%@List.take_of_length_le:=@List.take_of_length_le
def ZB:type_of%@Nat.le_trans:=@Nat.le_trans
def ZC:type_of%@List.drop_eq_nil_of_le:=@List.drop_eq_nil_of_le
def ZD:type_of%@if_false:=@if_false
def ZE:type_of%@if_true:=@if_true
def ZF:type_of%@List.length_cons:=@List.length_cons
def ZG:type_of%@not_false_eq_true:=@not_false_eq_true
def ZH:type_of%@List.length_append:=@List.length_append
def ZI:type_of%@List.mem_map:=@List.mem_map
def ZJ:type_of%@List.not_mem_nil:=@List.not_mem_nil
def ZK:type_of%@Nat.add_assoc:=@Nat.add_assoc
def ZL:type_of%@Option.bind_some:=@Option.bind_some
def ZM:type_of%@Array.getElem?_eq_some_iff:=@Array.getElem?_eq_some_iff
def ZN:type_of%@Nat.lt_of_lt_of_le:=@Nat.lt_of_lt_of_le
def ZO:type_of%@Array.getElem?_toList:=@Array.getElem?_toList
def ZP:type_of%@List.map_cons:=@List.map_cons
def ZQ:type_of%@List.take_add_one:=@List.take_add_one
def ZR:type_of%@Nat.add_zero:=@Nat.add_zero
def ZS:type_of%@List.foldl_cons:=@List.foldl_cons
def ZT:type_of%@Option.map_some:=@Option.map_some
def ZU:type_of%@List.eq_nil_of_length_eq_zero:=@List.eq_nil_of_length_eq_zero
def ZV:type_of%@Nat.zero_add:=@Nat.zero_add
def ZW:type_of%@List.getElem?_append_right:=@List.getElem?_append_right
def ZX:type_of%@List.map_append:=@List.map_append
def ZY:type_of%@Option.bind_eq_some_iff:=@Option.bind_eq_some_iff
def ZZ:type_of%@List.mem_iff_getElem?:=@List.mem_iff_getElem?
def Z0:type_of%@Nat.add_mul:=@Nat.add_mul
def Z1:type_of%@Nat.mul_one:=@Nat.mul_one
def Z2:type_of%@Option.isSome_none:=@Option.isSome_none
def Z3:type_of%@List.getElem?_cons_succ:=@List.getElem?_cons_succ
def Z4:type_of%@List.getElem?_eq_none:=@List.getElem?_eq_none
def Z5:type_of%@List.length_nil:=@List.length_nil
def Z6:type_of%@List.getElem?_append_left:=@List.getElem?_append_left
def Z7:type_of%@Option.isSome_some:=@Option.isSome_some
def Z8:type_of%@List.take_zero:=@List.take_zero
def Z9:type_of%@Nat.le_succ:=@Nat.le_succ
def Ya:type_of%@Bool.eq_iff_iff:=@Bool.eq_iff_iff
def Yb:type_of%@List.drop_zero:=@List.drop_zero
def Yc:type_of%@and_true:=@and_true
def Yd:type_of%@List.getElem?_cons_zero:=@List.getElem?_cons_zero
def Ye:type_of%@Int.eq_ofNat_of_zero_le:=@Int.eq_ofNat_of_zero_le
def Yf:type_of%@Option.bind_assoc:=@Option.bind_assoc
def Yg:type_of%@Option.map_eq_some_iff:=@Option.map_eq_some_iff
def Yh:type_of%@decide_false:=@decide_false
def Yi:type_of%@Nat.lt_succ_self:=@Nat.lt_succ_self
def Yj:type_of%@List.take_succ_cons:=@List.take_succ_cons
def Yk:type_of%@List.length_pos_iff:=@List.length_pos_iff
def Yl:type_of%@List.flatten_cons:=@List.flatten_cons
def Ym:type_of%@or_false:=@or_false
def Yn:type_of%@Bool.and_self:=@Bool.and_self
def Yo:type_of%@List.drop_succ_cons:=@List.drop_succ_cons
def Yp:type_of%@List.size_toArray:=@List.size_toArray
def Yq:type_of%@Bool.not_true:=@Bool.not_true
def Yr:type_of%@Bool.not_false:=@Bool.not_false
def Ys:type_of%@Option.some.inj:=@Option.some.inj
def Yt:type_of%@List.append_nil:=@List.append_nil
def Yu:type_of%@List.set_cons_zero:=@List.set_cons_zero
def Yv:type_of%@List.set_cons_succ:=@List.set_cons_succ
def Yw:type_of%@List.all_eq_true:=@List.all_eq_true
def Yx:type_of%@List.length_drop:=@List.length_drop
def Yy:type_of%@Array.getElem?_append_left:=@Array.getElem?_append_left
def Yz:type_of%@Bool.and_assoc:=@Bool.and_assoc
def YA:type_of%@List.map_congr_left:=@List.map_congr_left
def YB:type_of%@List.flatten_append:=@List.flatten_append
def YC:type_of%@List.takeWhile_cons:=@List.takeWhile_cons
def YD:type_of%@List.nil_append:=@List.nil_append
def YE:type_of%@decide_true:=@decide_true
def YF:type_of%@Nat.mod_eq_of_lt:=@Nat.mod_eq_of_lt
def YG:type_of%@beq_self_eq_true:=@beq_self_eq_true
def YH:type_of%@List.getElem?_drop:=@List.getElem?_drop
def YI:type_of%@List.map_map:=@List.map_map
def YJ:type_of%@Nat.sub_zero:=@Nat.sub_zero
def YK:type_of%@Nat.zero_le:=@Nat.zero_le
def YL:type_of%@List.cons.injEq:=@List.cons.injEq
def YM:type_of%@List.mem_filter:=@List.mem_filter
def YN:type_of%@Prod.mk.injEq:=@Prod.mk.injEq
def YO:type_of%@Bool.and_true:=@Bool.and_true
def YP:type_of%@List.cons_append:=@List.cons_append
def YQ:type_of%@Option.getD_some:=@Option.getD_some
def YR:type_of%@List.pairwise_iff_getElem:=@List.pairwise_iff_getElem
def YS:type_of%@not_or:=@not_or
def YT:type_of%@Int.emod_eq_of_lt:=@Int.emod_eq_of_lt
def YU:type_of%@Array.size_append:=@Array.size_append
def YV:type_of%@Nat.lt_trichotomy:=@Nat.lt_trichotomy
def YW:type_of%@List.flatMap_cons:=@List.flatMap_cons
def YX:type_of%@List.getElem?_take_of_lt:=@List.getElem?_take_of_lt
def YY:type_of%@Nat.le_mul_of_pos_right:=@Nat.le_mul_of_pos_right
def YZ:type_of%@List.length_take:=@List.length_take
def Y0:type_of%@List.take_length:=@List.take_length
def Y1:type_of%@Array.ext':=@Array.ext'
def Y2:type_of%@beq_iff_eq:=@beq_iff_eq
def Y3:type_of%@List.find?_eq_none:=@List.find?_eq_none
def Y4:type_of%@Bool.or_eq_true:=@Bool.or_eq_true
def Y5:type_of%@Option.map_none:=@Option.map_none
def Y6:type_of%@Array.getElem?_modify:=@Array.getElem?_modify
def Y7:type_of%@Nat.le_div_iff_mul_le:=@Nat.le_div_iff_mul_le
def Y8:type_of%@Array.mem_of_getElem?:=@Array.mem_of_getElem?
def Y9:type_of%@List.ext_getElem?:=@List.ext_getElem?
def za:type_of%@List.mapM_cons:=@List.mapM_cons
def zb:type_of%@List.mem_of_mem_drop:=@List.mem_of_mem_drop
def zc:type_of%@List.mem_of_mem_take:=@List.mem_of_mem_take
def zd:type_of%@Nat.le_of_eq:=@Nat.le_of_eq
def ze:type_of%@Nat.beq_refl:=@Nat.beq_refl
def zf:type_of%@Nat.lt_or_ge:=@Nat.lt_or_ge
def zg:type_of%@Nat.le_add_right:=@Nat.le_add_right
def zh:type_of%@List.set_nil:=@List.set_nil
def zi:type_of%@Bool.true_and:=@Bool.true_and
def zj:type_of%@List.find?_cons:=@List.find?_cons
def zk:type_of%@List.nodup_cons:=@List.nodup_cons
def zl:type_of%@List.drop_drop:=@List.drop_drop
def zm:type_of%@Nat.le_of_lt:=@Nat.le_of_lt
def zn:type_of%@Nat.zero_mul:=@Nat.zero_mul
def zo:type_of%@Nat.not_lt:=@Nat.not_lt
def zp:type_of%@true_and:=@true_and
def zq:type_of%@Nat.mul_comm:=@Nat.mul_comm
def zr:type_of%@and_self:=@and_self
def zs{p q:Prop}(a:q)(h:q->p:=by intro h;omega):p:=h a
def zt(a b:Nat)(h:b<=a:=by omega):decide ((a:Int)<(b:Int))=false:=decide_eq_false (by omega)
def zu(a b:Nat)(h:a<b:=by omega):decide ((a:Int)<(b:Int))=true:=decide_eq_true (by omega)
def zv{α:Type}(l:List α)(i:Nat)(h:i<l.length:=by omega):∃x,l[i]? =some x:=⟨_,List.getElem?_eq_getElem h⟩
end Go
namespace Go.bd
noncomputable section
inductive Q(α:Type) where
 |nil
 |node (v:Option α) (l r:Q α)
 deriving Inhabited
universe ac
def bW{α:Type ac}(c:Bool)(t E:α):α:=Bool.rec (motive:=λ_=>α) E t c
def Q.get{α:Type}(t:Q α):Nat->Option α:=
 Q.rec (motive:=λ_=>Nat->Option α) (λ_=>none)
  (λv _ _ i7 rp i=>Nat.rec (motive:=λ_=>Option α) v (λS _=>bW (Nat.beq (Nat.mod S 2) 0) (i7 (Nat.div S 2)) (rp (Nat.div S 2))) i) t
def jU{α eZ:Type}(t:Q α)(z:Q α->eZ):eZ:=
 Q.rec (motive:=λ_=>eZ) (z .nil) (λv l r _ _=>z (.node v l r)) t
def Q.s1{α:Type}(f:Nat):Q α->Nat->Option α->Q α:=
 Nat.rec (motive:=λ_=>Q α->Nat->Option α->Q α) (λt _ _=>t)
  (λ_ ai t i H=>Q.rec (motive:=λ_=>Q α)
   (Nat.rec (motive:=λ_=>Q α) (.node H .nil .nil) (λS _=>bW (Nat.beq (Nat.mod S 2) 0)
    (jU (ai .nil (Nat.div S 2) H) λce=> .node none ce .nil) (jU (ai .nil (Nat.div S 2) H) λia=> .node none .nil ia)) i)
   (λv l r _ _=>Nat.rec (motive:=λ_=>Q α) (.node H l r) (λS _=>bW (Nat.beq (Nat.mod S 2) 0)
    (jU (ai l (Nat.div S 2) H) λce=> .node v ce r) (jU (ai r (Nat.div S 2) H) λia=> .node v l ia)) i) t) f
def rl{eZ:Type}(n:Nat)(z:Nat->eZ):eZ:=Nat.rec (motive:=λ_=>eZ) (z 0) (λm _=>z (Nat.succ m)) n
def TC{eZ:Type}(n:Int)(z:Int->eZ):eZ:=
 Int.rec (motive:=λ_=>eZ) (λm=>rl m λm=>z (.ofNat m)) (λm=>rl m λm=>z (.negSucc m)) n
def ev{α:Type}(l:List (Nat×α)):Nat->Option α:=
 List.rec (motive:=λ_=>Nat->Option α) (λ_=>none) (λp _ ai S=>Prod.rec (motive:=λ_=>Option α) (λH b=>bW (Nat.beq H S) (some b) (ai S)) p) l
def Q.set{α:Type}(t:Q α)(i:Nat)(H:Option α):Q α:=Q.s1 (i+1) t i H
def Q.ofList{α:Type}:List α->Nat->Q α->Q α
 |[],_,t=>t
 |H::l,i,t=>jU (t.set i (some H)) λhp=>ofList l (i+1) hp
def Q.li{α:Type}(t:Q α):Nat->Nat->Option (List α)
 |_,0=>some []
 |W,n+1=>match t.get W with
  |none=>none
  |some H=>match li t (W+1) n with
   |none=>none
   |some l=>some (H::l)
def sY{α:Type}(l:List α):Nat->Option α:=
 List.rec (motive:=λ_=>Nat->Option α) (λ_=>none) (λH _ ai i=>Nat.rec (motive:=λ_=>Option α) (some H) (λS _=>ai S) i) l
inductive D where
 |bool (b:Bool)
 |int (z:IntKind) (n:Int)
 |str (s:List Nat)
 |ptr (b W:Nat)
 |cJ
 |slice (b W len cap:Nat)
 |fj (b W len bt:Nat)
 |aV
 |map (m:Nat)
 |mF
 |func (fn:Fn) (first fY:List D)
 |nilFunc
 |iface (t:Nat) (v:D)
 |nilIface
 |agg (cs:List D)
 |tuple (br:List D)
 deriving Inhabited
def D.cells:D->List D
 | .agg cs=>cs
 |v=>[v]
def undef:D:= .tuple []
def C7{α eZ:Type}(f:α->Option eZ):List α->Option (List eZ)
 |[]=>some []
 |H::l=>match f H with
  |none=>none
  |some b=>match C7 f l with
   |none=>none
   |some r=>some (b::r)
def Df:Nat->Value->Option D
 |0,_=>none
 |n+1,v=>match v with
  | .bool b=>some (.bool b)
  | .int z n=>some (.int z n)
  | .string s=>some (.str (s.data.toList.map (·.toNat)))
  | .pointer none=>some .cJ
  | .slice none 0 0=>some .aV
  | .map none=>some .mF
  | .func (.func f) ⟨[]⟩ ⟨[]⟩=>some (.func (.func f) [] [])
  | .nilFunc=>some .nilFunc
  | .iface t v=>match Df n v with|some H=>some (.iface t H)|none=>none
  | .nilIface=>some .nilIface
  | .agg cs=>match C7 (Df n) cs.toList with|some l=>some (.agg l)|none=>none
  | .tuple cs=>match C7 (Df n) cs.toList with|some l=>some (.tuple l)|none=>none
  |_=>none
def F4(v:Value):Option D:=Df 20 v
inductive RF where
 |fn (fn:Fn) (fY:List D)
 |collected (r:Nat)
structure h3 where
 target:RF
 args:List D
inductive oU where
 |own|marked|grow (fp:List Nat)|kw
 deriving Inhabited
inductive af where
 |cells (c:Q D) (size:Nat) (st:oU)
 |map (cb:List (D×D×Nat)) (fe:Nat)
 |look (cb:List (D×D))
 |pp (s:List Nat) (pos:Nat)
 |A0 (m:Option Nat) (wX:Nat) (seen:List Nat) (ajE:Nat)
 |I1 (m wX n:Nat) (cO:List Nat) (st:Nat) (gY:Option Nat)
 |loop (state:LoopState) (pending:Option Code) (fn:Nat) (n ao:Nat) (I:Q D) (params:List Nat) (assign body:Code) (defers:Nat)
 |deferred (qu:Option (List h3))
structure aK where
 P:Program
 G:Q af
 a2:Nat
 hB:Nat->List D->Option D
 jM:Nat
def U(C:aK)(h:Q af)(b:Nat):Option af:=
 bW (Nat.blt b C.a2) (C.G.get b) (h.get (Nat.sub b C.a2))
def bj(C:aK)(h:Q af)(b:Nat)(W:Option af):Q af:=h.set (Nat.sub b C.a2) W
def kV(C:aK)(b:Nat):Bool:=Nat.ble C.a2 b
structure s8 where
 v:D
 recovered:Bool
inductive lw where
 |run|returning|panicking (chain:List s8)
inductive kT where
 |v (S:Nat)
 |t (n:Nat)
 |c (H:D)
inductive ke where
 |FS (x:kT)
 |pick (c H b:kT)
 |eV (H:kT)
 |CY (n:Nat) (H:kT)
 |off (d:Nat) (x:kT)
 |CP (n bt:Nat) (x i:kT)
 |CQ (bt:Nat) (x i:kT)
 |FX (x:kT)
 |L4 (op:BinOp) (x e:kT)
 |ext (i:Nat) (x:kT)
 |st (n:Nat) (H v:kT)
 |call (f:Nat) (args:List kT)
 |ix (b8:List (Nat×Nat)) (W:Op)
 |make (b8:List (Nat×Nat)) (W:Op)
 |fw (b8:List (Nat×Nat)) (W:Op)
structure fz where
 i:Nat
 g:Option (Nat×Bool)
 op:ke
structure xo where
 vc:List fz
 Xe:List fz
 fw:Option fz
inductive d1 where
 |code (c:Code)
 |inBlock (id:Nat)
 |inLoop (body:Code)
 |inScope (body:Code)
 |Jt (ar:Array Oper) (aq:List (Nat×D)) (rest:List fz) (fin:List (Nat×Nat))
 |drawn (ar:Array Oper) (base:Nat) (aq:List (Nat×D)) (lS:List xo) (fin:List (Nat×Nat))
 |ux (ar:Array Oper) (aq:List (Nat×D)) (a:Nat) (rest:List fz) (fin:List (Nat×Nat))
 |Bn (ar:Array Oper) (base:Nat) (aq:List (Nat×D)) (a:Nat) (lS:List xo) (fin:List (Nat×Nat))
 |inRangeFunc (l:Nat)
 |endRangeFunc (l:Nat)
 |beginRound
structure g4 where
 fn:Nat
 n:Nat
 ao:Nat
 I:Q D
 todo:List d1
 defers:List h3
 mode:lw
 deferred:Bool
 roundOf:Option Nat
section ar
variable(C:aK)
def jO(t:Nat):Option Nat:=match C.P.info? t with|some i=>some i.size|none=>none
def uz(t:Nat):Option D:=match C.P.info? t with|some i=>(match i.zero with|some v=>F4 v|none=>none)|none=>none
def Fv(t:Nat):Option Bool:=match C.P.underlying t with
 |some (.struct _)=>some true|some (.array _ _)=>some true|some _=>some false|none=>none
def n3:List D->Nat->List D->List D
 |cs,_,[]=>cs
 |cs,W,v::l=>n3 (cs.set W v) (W+1) l
def B6(Ji:Nat->Option (Nat×Nat)):List D->List (Nat×D)->Option (List D)
 |cells,[]=>some cells
 |cells,(i,v)::rest=>match Ji i with
  |none=>none
  |some (off,size)=>
   bW (Nat.beq v.cells.length size&&Nat.ble (off+size) cells.length) (B6 Ji (n3 cells off v.cells) rest)<|none
def lr:Nat->List D->List D
 |0,_=>[]
 |n+1,bm=>bm++lr n bm
def Ag(av:Operand->Option D):List (Nat×Operand)->Option (List (Nat×D))
 |[]=>some []
 |(i,x)::l=>match av x,Ag av l with|some v,some r=>some ((i,v)::r)|_,_=>none
def qz(av:Operand->Option D):List Operand->Option (List D)
 |[]=>some []
 |x::l=>match av x,qz av l with|some v,some r=>some (v::r)|_,_=>none
def XJ(kk:List Field)(i:Nat):Option (Nat×Nat):=
 match sY kk i with
 |some f=>(match jO C f.type with|some s=>some (f.offset,s)|none=>none)
 |none=>none
def QH:List Field->Bool
 |[]=>true
 |f::l=>(match jO C f.type with|some _=>true|none=>false)&&QH l
def NK(t:Nat)(kv:List (Nat×D)):Option D:=
 match uz C t with
 |none=>none
 |some bm=>match C.P.underlying t with
  |some (.struct kk)=>bW (QH C kk.toList) (match B6 (XJ C kk.toList) bm.cells kv with|some cs=>some (.agg cs)|none=>none) none
  |some (.array _ ek)=>(match jO C ek with
   |some s=>(match B6 (λi=>some (i*s,s)) bm.cells kv with|some cs=>some (.agg cs)|none=>none)
   |none=>none)
  |_=>none
def D6(t:Nat)(cs:List D)(off:Nat):Option D:=
 match Fv C t,jO C t with
 |some true,some s=>some (.agg ((cs.drop off).take s))
 |some false,_=>sY cs off
 |_,_=>none
def mX:List Nat->List Nat->Bool
 |[],[]=>true
 |H::x,b::e=>Nat.beq H b&&mX x e
 |_,_=>false
def Db:List Nat->List Nat->Bool
 |_,[]=>false
 |[],_::_=>true
 |H::x,b::e=>Nat.blt H b||(Nat.beq H b&&Db x e)
def Jg(h:Q af)(b W:Nat):Bool:=match U C h b with
 |some (.cells _ n .own)=>kV C b&&Nat.blt W n
 |_=>false
def C3(h:Q af)(b W:Nat):Bool:=match U C h b with
 |some (.cells _ _ .kw)=>false
 |some (.cells _ n _)=>Nat.blt W n
 |_=>false
def ptrEq(h:Q af)(b W dM o':Nat):Option Bool:=
 bW (Nat.beq b dM) (some (Nat.beq W o')) (bW (Jg C h b W&&C3 C h dM o'||Jg C h dM o'&&C3 C h b W) (some false) none)
def yZ(eq:Nat->D->D->Option Bool):List Field->List D->List D->Option Bool
 |[],_,_=>some true
 |f::jF,cn,m6=>
  bW (f.name== "_") none<|
  match D6 C f.type cn f.offset,D6 C f.type m6 f.offset with
  |some H,some b=>(match eq f.type H b with
   |some true=>yZ eq jF cn m6
   |some false=>some false
   |none=>none)
  |_,_=>none
def mU(z eY:IntKind):Bool:=match z,eY with
 | .i8, .i8=>true| .i16, .i16=>true| .i32, .i32=>true| .i64, .i64=>true
 | .u8, .u8=>true| .u16, .u16=>true| .u32, .u32=>true| .u64, .u64=>true
 |_,_=>false
def Hr(H b:Bool):Bool:=match H,b with|true,true=>true|false,false=>true|_,_=>false
def u7(x e:Int):Bool:=match x,e with
 | .ofNat H, .ofNat b=>Nat.beq H b
 | .negSucc H, .negSucc b=>Nat.beq H b
 |_,_=>false
def AT(x e:Int):Bool:=match x,e with
 | .ofNat H, .ofNat b=>Nat.blt H b
 | .negSucc H, .negSucc b=>Nat.blt b H
 | .negSucc _, .ofNat _=>true
 | .ofNat _, .negSucc _=>false
def i2(h:Q af):Nat->Nat->D->D->Option Bool
 |0,_,_,_=>none
 |d+1,t,x,e=>
  match C.P.underlying t,x,e with
  |some .bool, .bool H, .bool b=>some (Hr H b)
  |some (.int _), .int z H, .int eY b=>bW (mU z eY) (some (u7 H b)) none
  |some .string, .str H, .str b=>some (mX H b)
  |some (.pointer _), .cJ, .cJ=>some true
  |some (.pointer _), .cJ, .ptr _ _=>some false
  |some (.pointer _), .ptr _ _, .cJ=>some false
  |some (.pointer E), .ptr b W, .ptr dM o'=>
   (
    match jO C E with
    |some s=>bW (Nat.beq s 0) none (ptrEq C h b W dM o')
    |none=>none)
  |some (.interface _), .nilIface, .nilIface=>some true
  |some (.interface _), .nilIface, .iface _ _=>some false
  |some (.interface _), .iface _ _, .nilIface=>some false
  |some (.interface _), .iface M9 Rr, .iface ty Rs=>bW (Nat.beq M9 ty) (match C.P.info? M9 with
   |some i=>bW i.comparable (i2 h d M9 Rr Rs) none
   |none=>none) (some false)
  |some (.slice _), .aV, .aV=>some true
  |some (.slice _), .aV, .slice .. =>some false
  |some (.slice _), .aV, .fj .. =>some false
  |some (.slice _), .slice .., .aV=>some false
  |some (.slice _), .fj .., .aV=>some false
  |some (.map _ _), .mF, .mF=>some true
  |some (.map _ _), .mF, .map _=>some false
  |some (.map _ _), .map _, .mF=>some false
  |some (.func _ _ _), .nilFunc, .nilFunc=>some true
  |some (.func _ _ _), .nilFunc, .func .. =>some false
  |some (.func _ _ _), .func .., .nilFunc=>some false
  |some (.struct kk), .agg cn, .agg m6=>bW (C.P.stoodInHeld t) none (yZ C (i2 h d) kk.toList cn m6)
  |_,_,_=>none
def qj(z:IntKind)(n:Int):Int:=
 match z with
 | .i64=>(λm:Int=>bW (decide (m<9223372036854775808)) m (m-18446744073709551616)) (n%18446744073709551616)
 | .u64=>n%18446744073709551616
 | .u8=>n%256
 |z=>z.wrap n
def qO(z:IntKind)(n:Int):Option D:=TC n λn=>some (.int z n)
def lM(z:IntKind)(n:Int):Option D:=TC (qj z n) λn=>some (.int z n)
def nI(b:Bool):Option D:=bW b (some (.bool true)) (some (.bool false))
def mi(op:BinOp):IntKind->Int->Int->Option D:=
 match op with
 | .add=>λz x e=>lM z (x+e)
 | .sub=>λz x e=>lM z (x-e)
 | .mul=>λz x e=>lM z (x*e)
 | .quo=>λz x e=>bW (u7 e 0) none (lM z (x.tdiv e))
 | .rem=>λz x e=>bW (u7 e 0) none (qO z (x.tmod e))
 | .and=>λz x e=>lM z ((BitVec.ofInt z.bits x&&& BitVec.ofInt z.bits e).toNat)
 | .or=>λz x e=>lM z ((BitVec.ofInt z.bits x|||BitVec.ofInt z.bits e).toNat)
 | .xor=>λz x e=>lM z ((BitVec.ofInt z.bits x^^^BitVec.ofInt z.bits e).toNat)
 | .andNot=>λz x e=>lM z ((BitVec.ofInt z.bits x&&& ~~~ BitVec.ofInt z.bits e).toNat)
 | .eql=>λ_ x e=>nI (u7 x e)
 | .neq=>λ_ x e=>nI (!u7 x e)
 | .lss=>λ_ x e=>nI (AT x e)
 | .leq=>λ_ x e=>nI (!AT e x)
 | .gtr=>λ_ x e=>nI (AT e x)
 | .geq=>λ_ x e=>nI (!AT x e)
 |_=>λ_ _ _=>none
def Kb(op:BinOp)(z:IntKind)(x e:Int):Option D:=
 bW (AT e 0) none
 (match op with
 | .shl=>lM z (x*2^(min e.toNat z.bits))
 | .shr=>qO z (x.fdiv (2^(min e.toNat z.bits)))
 |_=>none)
def mB(op:BinOp):Bool:=match op with| .shl| .shr=>true|_=>false
def BN(op:BinOp)(x e:List Nat):Option D:=
 match op with
 | .add=>bW (Nat.ble (x.length+e.length) 1000000000) (some (.str (x++e)))<|none
 | .eql=>nI (mX x e)
 | .neq=>nI (!mX x e)
 | .lss=>nI (Db x e)
 | .leq=>nI (Db x e||mX x e)
 | .gtr=>nI (!(Db x e||mX x e))
 | .geq=>nI (!Db x e)
 |_=>none
def bn(op:BinOp)(x e:D):Option D:=
 match x,e with
 | .int z H, .int eY b=>bW (mB op) (Kb op z H b) (bW (mU z eY) (mi op z H b) none)
 |_,_=>none
def HF(t:Nat)(oh:Bool)(x e:D):Bool:=match x,e with
 | .nilIface, .nilIface=>oh||(match C.P.underlying t with|some (.interface iT)=>iT.isEmpty|_=>false)
 | .agg _, .agg _=> !C.P.eqGuardType C.P.depth t
 |_,_=>true
def c5(h:Q af)(op:BinOp)(t:Nat)(oh:Bool)(x e:D):Option D:=
 match x,e with
 | .int z H, .int eY b=>bn op (.int z H) (.int eY b)
 | .str H, .str b=>BN op H b
 |x,e=>bW (HF C t oh x e) (match op with
  | .eql=>(match i2 C h 50 t x e with|some b=>nI b|none=>none)
  | .neq=>(match i2 C h 50 t x e with|some b=>nI (!b)|none=>none)
  |_=>none) none
def gm(op:UnOp)(x:D):Option D:=
 match op,x with
 | .neg, .int z n=>mi .sub z 0 n
 | .xor, .int z n=>mi .xor z (if z.signed then -1 else z.max) n
 | .not, .bool b=>nI (!b)
 |_,_=>none
def Sl(aCI dst:Nat)(x:D):Option D:=
 match C.P.underlying aCI,C.P.underlying dst,x with
 |some _,some (.int z), .int _ n=>lM z n
 |some _,some .string, .str s=>some (.str s)
 |_,_,_=>none
def nV(v:D):Option Nat:=match v with| .int _ n=>(match n with| .ofNat n=>some n|_=>none)|_=>none
def p3(W:Option D)(m d:Nat):Option Nat:=match W with
 |some v=>(match nV v with|some n=>bW (Nat.ble n m) (some n)<|none|none=>none)
 |none=>some d
def mH(len cap:Nat)(bL aG hA:Option D):Option (Nat×Nat×Nat):=
 match p3 hA cap cap with
 |none=>none
 |some m=>match (match aG,hA with
   |none,some _=>none
   |aG,_=>p3 aG m len)with
  |none=>none
  |some a=>match p3 bL a 0 with
   |none=>none
   |some l=>some (l,a,m)
def Dl(av:Operand->Option D):Option Operand->Option (Option D)
 |none=>some none
 |some x=>match av x with|some v=>some (some v)|none=>none
def yC(h:Q af)(b:Nat):Option Nat:=match U C h b with|some (.cells _ n (.grow _))=>some n|some (.cells _ n .kw)=>some n|_=>none
def NQ(h:Q af)(t:Nat)(x:D)(bL aG hA:Option D):Option D:=
 match C.P.underlying t,x with
 |some .string, .str s=>(match hA with
  |some _=>none
  |none=>(match mH s.length s.length bL aG none with
   |some (l,a,_)=>some (.str ((s.drop l).take (a-l)))
   |none=>none))
 |some (.slice ek), .slice b W len cap=>(match mH len cap bL aG hA,jO C ek with
  |some (l,a,m),some bt=>some (.slice b (bW (Nat.beq m l) (W)<|W+l*bt) (a-l) (m-l))
  |_,_=>none)
 |some (.slice ek), .aV=>(match mH 0 0 bL aG hA,jO C ek with
  |some _,some _=>some .aV
  |_,_=>none)
 |some (.slice ek), .fj b W len bt=>(match jO C ek,yC C h b with
  |some yE,some n=>bW (Nat.beq bt yE&&Nat.blt 0 bt) ((match mH len ((n-W)/bt) bL aG hA with
    |some (l,a,m)=>(match hA with
     |some _=>some (.slice b (bW (Nat.beq m l) (W)<|W+l*bt) (a-l) (m-l))
     |none=>bW (Nat.blt l ((n-W)/bt)||Nat.beq l 0) (some (.fj b (W+l*bt) (a-l) bt))<|none)
    |none=>none))<|none
  |_,_=>none)
 |some (.array n ek), .ptr b W=>(match mH n n bL aG hA,jO C ek with
  |some (l,a,m),some bt=>some (.slice b (bW (Nat.beq m l) (W)<|W+l*bt) (a-l) (m-l))
  |_,_=>none)
 |_,_=>none
def NN(t:Nat)(x i:D):Option D:=
 match nV i with
 |none=>none
 |some i=>match C.P.underlying t,x with
  |some (.array n ek), .agg cs=>(match jO C ek with|some bt=>bW (Nat.blt i n) (D6 C ek cs (i*bt))<|none|none=>none)
  |some .string, .str s=>(match sY s i with|some c=>some (.int .u8 (Int.ofNat c))|none=>none)
  |_,_=>none
def cellsOf(h:Q af)(b:Nat):Option (Q D):=match U C h b with
 |some (.cells c _ _)=>some c
 |_=>none
def aP(h:Q af)(H:D):Option D:=
 match H with
 | .ptr b W=>(match cellsOf C h b with
   |some c=>c.get W
   |none=>none)
 |_=>none
def cG(h:Q af)(n:Nat)(H:D):Option D:=
 match H with
 | .ptr b W=>(match cellsOf C h b with
   |some c=>(match c.li W n with|some l=>some (.agg l)|none=>none)
   |none=>none)
 |_=>none
def mj(h:Q af)(t:Nat)(H:D):Option D:=
 match Fv C t,jO C t with
 |some true,some s=>cG C h s H
 |some false,_=>aP C h H
 |_,_=>none
def nH:Nat->Nat->D->Bool
 |0,_,_=>false
 |n+1,t,v=>match C.P.underlying t,v with
  |some (.interface _), .iface d x=>(match C.P.info? d with|some i=>i.comparable&&nH n d x|none=>false)
  |some (.interface _), .nilIface=>true
  |some (.interface _),_=>false
  |some (.struct kk), .agg cs=>kk.toList.all λf=>f.name== "_"||(match D6 C f.type cs f.offset with|some p=>nH n f.type p|none=>false)
  |some (.struct _),_=>false
  |some (.array _ _),_=>false
  |some _,_=>true
  |none,_=>false
def oC:Nat->D->D->Bool
 |0,_,_=>false
 |n+1,x,e=>match x,e with
  | .bool H, .bool b=>Hr H b
  | .int z H, .int eY b=>mU z eY&&u7 H b
  | .str H, .str b=>mX H b
  | .ptr b W, .ptr dM o'=>Nat.beq b dM&&Nat.beq W o'
  | .cJ, .cJ=>true
  | .nilIface, .nilIface=>true
  | .iface t v, .iface hp hr=>Nat.beq t hp&&oC n v hr
  | .agg H, .agg b=>CW n H b
  |_,_=>false
 where
 CW (n:Nat):List D->List D->Bool
 |[],[]=>true
 |x::H,e::b=>oC n x e&&CW n H b
 |_,_=>false
def findKey(h:Q af)(t:Nat)(z:D):List (D×D×Nat)->Nat->Option (Option (Nat×D))
 |[],_=>some none
 |(eY,v,_)::cb,i=>match i2 C h 20 t z eY with
  |some true=>some (some (i,v))
  |some false=>findKey h t z cb (i+1)
  |none=>none
def p6(h:Q af)(t:Nat)(z:D):List (D×D)->Option (Option D)
 |[]=>some none
 |(eY,v)::cb=>match p6 h t z cb,i2 C h 20 t z eY with
  |some r,some false=>some r
  |some none,some true=>some (some v)
  |_,_=>none
def IY(r:Option (Option D)):Option (Option (Nat×D)):=match r with
 |some (some v)=>some (some (0,v))
 |some none=>some none
 |none=>none
def NP(h:Q af)(t:Nat)(m z:D)(ok:Bool):Option D:=
 match C.P.underlying t with
 |some (.map j8 B1)=>
  (match (match m with
   | .mF=>bW (nH C 20 j8 z) (some none) none
   | .map r=>(match U C h r with|some (.map cb _)=>bW (nH C 20 j8 z) (findKey C h j8 z cb 0) none|some (.look cb)=>bW (nH C 20 j8 z) (IY (p6 C h j8 z cb)) none|_=>none)
   |_=>none)with
  |none=>none
  |some none=>(match uz C B1 with|some bm=>some (bW (ok) (.tuple [bm, .bool false])<|bm)|none=>none)
  |some (some (_,v))=>some (bW (ok) (.tuple [v, .bool true])<|v))
 |_=>none
def NO(h:Q af)(t:Nat)(x:D):Option D:=
 match C.P.underlying t,x with
 |some .string, .str s=>qO .i64 (Int.ofNat s.length)
 |some (.array n _),_=>some (.int .i64 (Int.ofNat n))
 |some (.pointer cp),_=>(match C.P.underlying cp with|some (.array n _)=>some (.int .i64 (Int.ofNat n))|_=>none)
 |some (.slice _), .slice _ _ n _=>qO .i64 (Int.ofNat n)
 |some (.slice _), .fj _ _ n _=>qO .i64 (Int.ofNat n)
 |some (.slice _), .aV=>some (.int .i64 0)
 |some (.map _ _), .mF=>some (.int .i64 0)
 |some (.map _ _), .map r=>(match U C h r with|some (.map cb _)=>qO .i64 (Int.ofNat cb.length)|_=>none)
 |_,_=>none
def NL(t:Nat)(x:D):Option D:=
 match C.P.underlying t,x with
 |some (.slice _), .slice _ _ _ n=>qO .i64 (Int.ofNat n)
 |some (.slice _), .aV=>some (.int .i64 0)
 |_,_=>none
def pC(hA:Bool):D->List D->Option D
 |v,[]=>some v
 | .int z x, .int _ e::l=>pC hA (.int z (bW (hA) ((bW (AT x e) (e)<|x))<|(bW (AT e x) (e)<|x))) l
 |_,_=>none
def y8:List D->Option (List Nat)
 |[]=>some []
 | .int .u8 (.ofNat n)::l=>(match y8 l with|some r=>some (n%256::r)|none=>none)
 |_=>none
def nL(h:Q af)(b W n:Nat):Option (List D):=
 match cellsOf C h b with
 |some c=>c.li W n
 |none=>bW (Nat.beq n 0) (some []) none
def Hg(h:Q af)(x:D):Option D:=
 match x with
 | .aV=>some (.str [])
 | .slice b W len _=>(match nL C h b W len with|some l=>(match y8 l with|some s=>some (.str s)|none=>none)|none=>none)
 | .fj b W len _=>(match nL C h b W len with|some l=>(match y8 l with|some s=>some (.str s)|none=>none)|none=>none)
 |_=>none
def Wl(t:Nat)(kv:Array (Nat×Operand))(_:Q af)(av:Operand->Option D):Option D:=
 match Ag av kv.toList with|some dq=>NK C t dq|none=>none
def rL(W:Operand):Bool:=match W with| .const _=>true|_=>false
def Qm(op:BinOp)(t:Nat)(x e:Operand)(h:Q af)(av:Operand->Option D):Option D:=
 match av x,av e with|some H,some b=>c5 C h op t (rL x||rL e) H b|_,_=>none
def Wt(op:UnOp)(x:Operand)(_:Q af)(av:Operand->Option D):Option D:=
 match av x with|some H=>gm op H|none=>none
def Mk(s d:Nat)(x:Operand)(h:Q af)(av:Operand->Option D):Option D:=
 match av x with
 |some H=>(match Sl C s d H with
  |some v=>some v
  |none=>(match C.P.underlying s,C.P.underlying d with
   |some (.slice E),some .string=>(match C.P.underlying E with|some (.int .u8)=>Hg C h H|_=>none)
   |_,_=>none))
 |none=>none
def Mm(t:Nat)(x:Operand)(_:Q af)(av:Operand->Option D):Option D:=
 match C.P.underlying t,av x with
 |some (.interface _),_=>none
 |some _,some v=>some (.iface t v)
 |_,_=>none
def Wp(fn:Fn)(first fY:Array Operand)(_:Q af)(av:Operand->Option D):Option D:=
 match qz av first.toList,qz av fY.toList with
 |some H,some b=>(match fn with| .func f=>some (.func (.func f) H b)|_=>none)
 |_,_=>none
def Ws(t:Nat)(x:Operand)(bL aG hA:Option Operand)(h:Q af)(av:Operand->Option D):Option D:=
 match av x,Dl av bL,Dl av aG,Dl av hA with
 |some v,some l,some a,some m=>NQ C h t v l a m
 |_,_,_,_=>none
def Ml(t:Nat)(x:Operand)(f:Nat)(_:Q af)(av:Operand->Option D):Option D:=
 match C.P.underlying t,av x with
 |some (.struct kk),some (.agg cs)=>(match sY kk.toList f with
  |some tx=>D6 C tx.type cs tx.offset
  |none=>none)
 |_,_=>none
def Wq(t:Nat)(x i:Operand)(_:Q af)(av:Operand->Option D):Option D:=
 match av x,av i with|some H,some b=>NN C t H b|_,_=>none
def Wr(t:Nat)(m z:Operand)(ok:Bool)(h:Q af)(av:Operand->Option D):Option D:=
 match av m,av z with|some H,some b=>NP C h t H b ok|_,_=>none
def Mj(x:Operand)(vH:Nat)(ok:Bool)(_:Q af)(av:Operand->Option D):Option D:=
 match C.P.underlying vH,av x with
 |some (.interface _),_=>none
 |some _,some .nilIface=>bW (ok) ((match uz C vH with|some bm=>some (.tuple [bm, .bool false])|none=>none))<|none
 |some _,some (.iface t v)=>bW (Nat.beq t vH) (some (bW (ok) (.tuple [v, .bool true])<|v))<|bW (ok) ((match uz C vH with|some bm=>some (.tuple [bm, .bool false])|none=>none))<|none
 |_,_=>none
def Wm(b:Builtin)(args:Array Operand)(di:Array TypeId)(h:Q af)(av:Operand->Option D):Option D:=
 match b,qz av args.toList with
 | .len,some [x]=>(match di.toList with|t::_=>NO C h t x|_=>none)
 | .cap,some [x]=>(match di.toList with|t::_=>NL C t x|_=>none)
 | .max,some (x::l)=>pC true x l
 | .min,some (x::l)=>pC false x l
 |_,_=>none
def Wn(c:Call)(h:Q af)(av:Operand->Option D):Option D:=
 match c with
 |⟨.builtin b,args,di⟩=>Wm C b args di h av
 |_=>none
def ahJ:List Nat->Option Nat
 |[]=>none
 |H::l=>match l with|[]=>some H|_=>ahJ l
def Wo(_:Operand)(_:Q af)(_:Operand->Option D):Option D:=(λ_:aK=>none) C
def oX(W:Op):aK->Q af->(Operand->Option D)->Option D:=
 match W with
 | .build t kv=>λC=>Wl C t kv
 | .binOp op t x e _=>λC=>Qm C op t x e
 | .unOp op _ x=>λ_=>Wt op x
 | .convert s d x=>λC=>Mk C s d x
 | .makeInterface t x=>λC=>Mm C t x
 | .makeFunc fn first fY=>λ_=>Wp fn first fY
 | .slice t x bL aG hA=>λC=>Ws C t x bL aG hA
 | .field t x f=>λC=>Ml C t x f
 | .index t x i=>λC=>Wq C t x i
 | .lookup t m z ok=>λC=>Wr C t m z ok
 | .typeAssert x _ vH ok=>λC=>Mj C x vH ok
 | .entry eP=>λC=>Wo C eP
 | .call c=>λC=>Wn C c
 |_=>λ_ _ _=>none
def Dt(c:ke):Bool:=match c with
 | .eV _| .CY _ _=>true
 | .ix _ W=>(match W with
   | .lookup .. | .convert .. | .slice .. | .call _| .binOp .. | .entry _=>true
   |_=>false)
 |_=>false
def FO(t:Nat)(_:Operand->Option D)(b:Nat):Option (D×af):=
 match uz C t with|some bm=>some (.ptr b 0, .cells (Q.ofList bm.cells 0 .nil) bm.cells.length .own)|none=>none
def Ms(x:Operand)(av:Operand->Option D)(b:Nat):Option (D×af):=
 match av x with|some v=>some (.ptr b 0, .cells (Q.ofList v.cells 0 .nil) v.cells.length .own)|none=>none
def Mt(t len:Nat)(kv:Array (Nat×Operand))(av:Operand->Option D)(b:Nat):Option (D×af):=
 match C.P.underlying t,Ag av kv.toList with
 |some (.slice ek),some dq=>(match jO C ek,uz C ek with
  |some s,some bm=>bW (Nat.ble (len*s) 16777216&&Nat.beq bm.cells.length s) ((match B6 (λi=>some (i*s,s)) (lr len bm.cells) dq with
    |some cs=>some (.slice b 0 len len, .cells (Q.ofList cs 0 .nil) cs.length .own)
    |none=>none))<|none
  |_,_=>none)
 |_,_=>none
def q9(W:Op):aK->(Operand->Option D)->Nat->Option (D×af):=
 match W with
 | .alloc t=>λC=>FO C t
 | .box _ x=>λ_=>Ms x
 | .buildSlice t len kv=>λC=>Mt C t len kv
 | .makeMap _ none=>λ_ _ b=>some (.map b, .map [] 0)
 |_=>λ_ _ _=>none
def qQ:List Nat->Q af->Q af
 |[],a=>a
 |b::l,a=>qQ l (bj C a b none)
def dS:Q D->Nat->List D->Q D
 |c,_,[]=>c
 |c,W,v::l=>jU (c.set W (some v)) λc=>dS c (W+1) l
def qV(v:D):Bool:=match v with| .agg _=>false| .tuple _=>false|_=>true
def jf:List D->Bool
 |[]=>true
 |v::l=>qV v&&jf l
def xr(h:Q af)(b W:Nat)(br:List D):Option (Q af):=
 match U C h b with
 |some (.cells c n st)=>bW (Nat.ble (W+br.length) n&&kV C b&&jf br) ((match st with
   | .own=>jU (dS c W br) λc=>jU (bj C h b (some (.cells c n .own))) λh=>some h
   | .marked=>jU (dS c W br) λc=>jU (bj C h b (some (.cells c n .marked))) λh=>some h
   | .grow fp=>jU (dS c W br) λc=>jU (bj C (qQ C fp h) b (some (.cells c n (.grow [])))) λh=>some h
   |_=>none))<|none
 |_=>none
def lu(h:Q af)(bt:Nat)(x:D):Option (Nat×List D):=
 match x with
 | .aV=>some (0,[])
 | .slice b W len _=>(match nL C h b W (len*bt)with|some l=>some (len,l)|none=>none)
 | .fj b W len _=>(match nL C h b W (len*bt)with|some l=>some (len,l)|none=>none)
 | .str s=>bW (Nat.beq bt 1) (some (s.length,s.map λn=>D.int .u8 (Int.ofNat n))) none
 |_=>none
inductive ee where
 |val (v:D)
 |fv (v:D) (h:Q af) (j:Nat)
 |enter (f:Nat) (args:List D)
 |known (f:Nat) (args:List D) (v:D)
 |round (l:Nat) (args:List D)
 |defer (d:h3)
 |recover
 |panic (v:D)
 |fork (l:List (D×Q af))
def nW(C:aK)(h:Q af)(j:Nat)(W:af)(z:Nat->D):Option ee:=
 rl j λj=>jU (bj C h j (some W)) λh=>some (.fv (z j) h (j+1))
def uT(h:Q af)(j n bt:Nat)(l:List D):Option ee:=
 bW (Nat.ble n 1048576) (nW C h j (.cells (Q.ofList l 0 .nil) l.length (.grow [])) λb=> .fj b 0 n bt)<|none
def Kf(h:Q af)(j:Nat)(b W len bt n:Nat)(l:List D):Option ee:=
 match U C h b with
 |some (
   .cells c size (.grow fp))=>bW (kV C b)
  (bW (
   Nat.ble (W+(len+n)*bt) size)
   (match xr C h b (W+len*bt) l with|some S'=>some (.fv (.fj b W (len+n) bt) S' j)|none=>none)
   (bW (Nat.ble (len+n) 1048576&&jf l) (bW (Nat.beq (W+len*bt) size&&Nat.beq W 0)
    (jU (dS c size l) λfS=>nW C (bj C h b (some (.cells c size .kw))) j (.cells fS (size+l.length) (.grow (b::fp))) λdM=> .fj dM 0 (len+n) bt)
    (match c.li W (len*bt)with
    |some fy=>nW C (bj C (qQ C fp h) b none) j (.cells (Q.ofList (fy++l) 0 .nil) (fy++l).length (.grow [])) λdM=> .fj dM 0 (len+n) bt
    |none=>none)) none)) none
 |_=>none
def y2(h:Q af)(j:Nat)(bt n:Nat)(l:List D)(s:D):Option ee:=
 match s with
 | .aV=>uT C h j n bt l
 | .slice b W len cap=>bW (Nat.ble (len+n) cap) ((match xr C h b (W+len*bt) l with|some S'=>some (.fv (.slice b W (len+n) cap) S' j)|none=>none))<|(match nL C h b W (len*bt)with
    |some fy=>uT C h j (len+n) bt (fy++l)
    |none=>none)
 | .fj b W len yE=>bW (Nat.beq yE bt) (Kf C h j b W len bt n l)<|none
 |_=>none
def Hi(h:Q af)(bt:Nat)(s:D):Option ee:=
 match s with
 | .aV=>some (.val .aV)
 | .slice b W len cap=>bW (Nat.ble len cap) (some (.val (.slice b W len cap))) none
 | .fj b W len yE=>bW (Nat.beq yE bt) (match yC C h b with
   |some n=>bW (Nat.ble (W+len*bt) n) (some (.val (.fj b W len yE))) none
   |none=>none) none
 |_=>none
def NM(h:Q af)(j:Nat)(st:Nat)(s:D)(n:Nat):Option ee:=
 match C.P.underlying st with
 |some (.slice ek)=>(match C.P.info? ek,uz C ek with
  |some i,some bm=>bW (Nat.blt 0 i.size&&Nat.ble i.bytes 65536&&Nat.beq bm.cells.length i.size&&Nat.ble n 1048576) (bW (Nat.beq n 0) (Hi C h i.size s)<|y2 C h j i.size n (lr n bm.cells) s)<|none
  |_,_=>none)
 |_=>none
def akz(i:TypeInfo):Bool:=match i.zero with|some bm=>Nat.beq bm.cells.size i.size|none=>false
def He(h:Q af)(j:Nat)(st:Nat)(s x:D):Option ee:=
 match C.P.underlying st with
 |some (.slice ek)=>(match C.P.info? ek with
  |some i=>(match lu C h i.size x with
   |some (n,l)=>bW (Nat.blt 0 i.size&&Nat.ble i.bytes 65536&&akz i) ((bW (Nat.beq n 0) (Hi C h i.size s)<|y2 C h j i.size n l s))<|none
   |none=>none)
  |none=>none)
 |_=>none
def aEO(h:Q af)(j:Nat)(b W m:Nat)(l:List D):Option ee:=
 bW (Nat.beq m 0) (some (.val (.int .i64 0)))<|
 (match xr C h b W l with|some S'=>some (.fv (.int .i64 (Int.ofNat m)) S' j)|none=>none)
def setObj(h:Q af)(j:Nat)(r:Nat)(W:af)(v:D):Option ee:=
 bW (kV C r) (jU (bj C h r (some W)) λh=>some (.fv v h j))<|none
def J9(h:Q af)(j:Nat)(t:Nat)(m z v:D):Option ee:=
 match C.P.underlying t,m with
 |some (.map j8 _), .map r=>(match U C h r with
  |some (.map cb fe)=>bW (nH C 20 j8 z) (match findKey C h j8 z cb 0 with
   |some (some (i,_))=>(match sY cb i with
    |some (eY,_,born)=>bW (oC 20 eY z) (setObj C h j r (.map (cb.set i (z,v,born)) fe) undef) none
    |none=>none)
   |some none=>setObj C h j r (.map (cb++[(z,v,fe)]) (fe+1)) undef
   |none=>none) none
  |_=>none)
 |_,_=>none
def QS(x e:D):Bool:=match x,e with
    | .bool H, .bool b=>Hr H b
    | .int z H, .int eY b=>mU z eY&&u7 H b
    | .str H, .str b=>mX H b
    | .aV, .aV=>true
    | .cJ, .cJ=>true
    | .nilIface, .nilIface=>true
    |_,_=>false
def Ga:List D->List D->Bool
 |[],[]=>true
 |H::x,b::e=>QS H b&&Ga x e
 |_,_=>false
def known(f:Nat)(args:List D):List (Nat×List D×D)->Option D
 |[]=>none
 |(g,cu,v)::l=>bW (Nat.beq f g&&Ga args cu) (some v)<|known f args l
def tp(f:Nat)(args:List D):Option ee:=
 match C.hB f args with
 |some v=>some (.known f args v)
 |none=>(match C.P.funcs[f]? with
  |some fn=>(match fn.body with
   |some _=>some (.enter f args)
   |none=>none)
  |none=>none)
def BM(fn:Fn)(fY args:List D):Option ee:=
 match fn with
 | .func f=>tp C f (args++fY)
 | .yield l=>some (.round l args)
 |_=>none
def Hf(h:Q af)(t:Nat)(v:D)(name:String)(args:List D):Option ee:=
 match C.P.info? t with
 |some i=>(match i.methods.find? (·.name==name)with
  |some m=>bW m.path.isEmpty (match m.func,C.P.underlying t with
   |some (f,true),some (.pointer _)=>tp C f (v::args)
   |some (f,false),some (.pointer E)=>(match mj C h E v with|some x=>tp C f (x::args)|none=>none)
   |some (f,false),some _=>tp C f (v::args)
   |_,_=>none) none
  |none=>none)
 |none=>none
def Rf(h:Q af)(j s:Nat)(H v:D):Option ee:=
 match H with
 | .ptr b W=>bW (Nat.beq v.cells.length s&&Nat.blt 0 s) ((match xr C h b W v.cells with|some S'=>some (.fv undef S' j)|none=>none))<|none
 |_=>none
def H2(t:Nat)(m z x:Operand)(h:Q af)(j:Nat)(av:Operand->Option D):Option ee:=
 match av m,av z,av x with
 |some m,some z,some v=>J9 C h j t m z v
 |_,_,_=>none
def K9(_:Nat)(_ _:Operand)(_:Q af)(_:Nat)(_:Operand->Option D):Option ee:=(λ_:aK=>none) C
def K1(_ _ _:Operand)(_:Q af)(_:Nat)(_:Operand->Option D):Option ee:=(λ_:aK=>none) C
def K8(t:Nat)(l c:Operand)(h:Q af)(j:Nat)(av:Operand->Option D):Option ee:=
 match C.P.underlying t,av l,av c with
 |some (.slice ek),some l,some c=>(match nV l,nV c,C.P.info? ek,uz C ek with
  |some l,some c,some i,some bm=>bW (Nat.ble l c&&Nat.ble c 1048576&&Nat.ble i.bytes 65536&&Nat.blt 0 i.size&&Nat.beq bm.cells.length i.size) (nW C h j (.cells (Q.ofList (lr c bm.cells) 0 .nil) (c*i.size) .own) λb=> .slice b 0 l c)<|none
  |_,_,_,_=>none)
 |_,_,_=>none
def K7(t:Nat)(r:Operand)(h:Q af)(j:Nat)(av:Operand->Option D):Option ee:=
 match C.P.underlying t,av r with
 |some (.map _ _),some (.int _ _)=>nW C h j (.map [] 0) λb=> .map b
 |_,_=>none
def Lc(s d:Nat)(x:Operand)(h:Q af)(j:Nat)(av:Operand->Option D):Option ee:=
 match C.P.underlying s,C.P.underlying d,av x with
 |some .string,some (.slice E),some (.str l)=>(match C.P.underlying E with
  |some (.int .u8)=>uT C h j l.length 1 (l.map λn=>D.int .u8 (Int.ofNat n))
  |_=>none)
 |some (.slice _),some (.slice E),some (.slice b W len cap)=>(match C.P.underlying E with
  |some (.int .u8)=>bW (Nat.beq s d&&kV C b) (match U C h b with
   |some (.cells c n .own)=>jU (bj C h b (some (.cells c n .marked))) λh=>some (.fv (.slice b W len cap) h j)
   |some (.cells _ _ .marked)=>some (.val (.slice b W len cap))
   |_=>none) none
  |_=>none)
 |_,_,_=>none
def La(t:Nat)(x:Operand)(h:Q af)(j:Nat)(av:Operand->Option D):Option ee:=
 match C.P.underlying t,av x with
 |some .string,some (.str s)=>nW C h j (.pp s 0) λb=> .ptr b 0
 |some (.map _ _),some .mF=>nW C h j (.A0 none 0 [] 0) λb=> .ptr b 0
 |some (.map _ _),some (.map r)=>(match U C h r with
  |some (.map _ fe)=>nW C h j (.A0 (some r) fe [] fe) λb=> .ptr b 0
  |_=>none)
 |_,_=>none
def rN(n:Nat):List Nat->Bool
 |[]=>false
 |H::l=>Nat.beq n H||rN n l
def xW(eP:Operand)(AU:Bool)(h:Q af)(j:Nat)(av:Operand->Option D):Option ee:=
 match av eP with
 |some (.ptr r 0)=>bW (kV C r) (match U C h r,AU with
  |some (.pp s pos),true=>bW (Nat.blt pos s.length) (match sY s pos with
    |some c=>bW (Nat.blt c 128) (setObj C h j r (.pp s (pos+1)) (.tuple [.bool true, .int .i64 (Int.ofNat pos), .int .i32 (Int.ofNat c)])) none
    |none=>none)
   (some (.val (.tuple [.bool false])))
  |some (.A0 none _ _ _),false=>some (.val (.tuple [.bool false]))
  |_,_=>none) none
 |_=>none
def Uu(x:Operand)(_:Q af)(_:Nat)(av:Operand->Option D):Option ee:=
 match av x with|some (.iface t v)=>some (.panic (.iface t v))|_=>none
def T6(c:Call)(_:Q af)(_:Nat)(av:Operand->Option D):Option ee:=
 match c with
 |⟨.value f,args,_⟩=>(match av f,qz av args.toList with
  |some (.func fn first fY),some cu=>some (.defer ⟨.fn fn fY,first++cu⟩)
  |_,_=>none)
 |_=>none
def KW(b:Builtin)(args:Array Operand)(di:Array TypeId)(h:Q af)(j:Nat)(av:Operand->Option D):Option ee:=
 match b,qz av args.toList with
 | .append,some [s,x]=>(match di.toList with
   |st::iU::_=>(match C.P.underlying iU with
    |some (.int _)=>(match nV x with|some n=>NM C h j st s n|none=>none)
    |some (.slice _)=>He C h j st s x
    |some .string=>He C h j st s x
    |_=>none)
   |_=>none)
 | .recover,some []=>some .recover
 |_,_=>none
def EF(c:Call)(h:Q af)(j:Nat)(av:Operand->Option D):Option ee:=
 match c with
 |⟨.value f,args,_⟩=>(match av f,qz av args.toList with
  |some (.func fn first fY),some cu=>BM C fn fY (first++cu)
  |_,_=>none)
 |⟨.builtin b,args,di⟩=>KW C b args di h j av
 |⟨.invoke r name,args,_⟩=>(match av r,qz av args.toList with
  |some (.iface t v),some cu=>Hf C h t v name cu
  |_,_=>none)
def od(W:Op):aK->Q af->Nat->(Operand->Option D)->Option ee:=
 match W with
 | .mapUpdate t m z x=>λC=>H2 C t m z x
 | .insert t m z x=>λC=>H2 C t m z x
 | .mapEntry t m z=>λC=>K9 C t m z
 | .entryStore _ m s x=>λC=>K1 C m s x
 | .makeSlice t l c=>λC=>K8 C t l c
 | .makeMap t (some r)=>λC=>K7 C t r
 | .convert s d x=>λC=>Lc C s d x
 | .range t x=>λC=>La C t x
 | .next eP AU=>λC=>xW C eP AU
 | .panic x=>λ_=>Uu x
 | .defer c=>λ_=>T6 c
 | .call c=>λC=>EF C c
 |_=>λ_ _ _ _=>none
end ar
def lF(x:kT):List (Nat×D)->Q D->Option D:=
 match x with
 | .v S=>λaq _=>ev aq S
 | .t n=>λ_ I=>I.get n
 | .c H=>λ_ _=>some H
def B2(aq:List (Nat×D))(I:Q D):List kT->Option (List D)
 |[]=>some []
 |x::l=>match lF x aq I with
  |none=>none
  |some v=>match B2 aq I l with
   |none=>none
   |some r=>some (v::r)
def jE(b8:List (Nat×Nat))(aq:List (Nat×D))(I:Q D)(W:Operand):Option D:=match W with
 | .tmp t=>(match ev b8 t with|some S=>ev aq S|none=>I.get t)
 | .const v=>F4 v
 | .global g=>some (.ptr g 0)
 | .func f=>some (.func (.func f) [] [])
def gr(d:Nat)(v:D):Option D:=match v with| .ptr b W=>some (.ptr b (W+d))|_=>none
def RC(c:D)(H b:kT)(aq:List (Nat×D))(I:Q D):Option D:=match c with
 | .bool c=>bW c (lF H aq I) (lF b aq I)
 |_=>none
def Np(n bt:Nat)(x:D)(i:Nat):Option D:=match x with| .ptr b W=>bW (Nat.blt i n) (some (.ptr b (W+i*bt))) none|_=>none
def DB(bt:Nat)(x:D)(i:Nat):Option D:=match x with
 | .slice b W len _=>bW (Nat.blt i len) (some (.ptr b (W+i*bt))) none
 | .fj b W len _=>bW (Nat.blt i len) (some (.ptr b (W+i*bt))) none
 |_=>none
def s5(v:D):Option D:=match v with
 | .ptr b W=>some (.ptr b W)
 | .func fn H b=>(match fn with| .func f=>some (.func (.func f) H b)| .yield f=>some (.func (.yield f) H b)|_=>none)
 | .iface t v=>some (.iface t v)
 |_=>none
def n8(i:Nat)(v:D):Option D:=match v with| .tuple br=>sY br i|_=>none
def hc(W:ke):aK->Q af->List (Nat×D)->Q D->Option D:=
 match W with
 | .FS x=>λ_ _=>lF x
 | .pick c H b=>λ_ _ aq I=>(match lF c aq I with|some c=>RC c H b aq I|none=>none)
 | .eV H=>λC h aq I=>(match lF H aq I with|some H=>aP C h H|none=>none)
 | .CY n H=>λC h aq I=>(match lF H aq I with|some H=>cG C h n H|none=>none)
 | .off d x=>λ_ _ aq I=>(match lF x aq I with|some H=>gr d H|none=>none)
 | .CP n bt x i=>λ_ _ aq I=>(match lF x aq I with|some H=>(match lF i aq I with|some i=>(match nV i with|some i=>Np n bt H i|none=>none)|none=>none)|none=>none)
 | .CQ bt x i=>λ_ _ aq I=>(match lF x aq I with|some H=>(match lF i aq I with|some i=>(match nV i with|some i=>DB bt H i|none=>none)|none=>none)|none=>none)
 | .FX x=>λ_ _ aq I=>(match lF x aq I with|some H=>s5 H|none=>none)
 | .L4 op x e=>λ_ _ aq I=>(match lF x aq I with|some H=>(match lF e aq I with|some b=>bn op H b|none=>none)|none=>none)
 | .ext i x=>λ_ _ aq I=>(match lF x aq I with|some H=>n8 i H|none=>none)
 | .ix b8 W=>λC h aq I=>oX W C h (jE b8 aq I)
 |_=>λ_ _ _ _=>none
def o5(W:ke):aK->Nat->List (Nat×D)->Q D->Option (D×af):=
 match W with
 | .make b8 W=>λC b aq I=>q9 W C (jE b8 aq I) b
 |_=>λ_ _ _ _=>none
def ie(W:ke):aK->Q af->Nat->List (Nat×D)->Q D->Option ee:=
 match W with
 | .st n H v=>λC h j aq I=>(match lF H aq I with|some H=>(match lF v aq I with|some v=>Rf C h j n H v|none=>none)|none=>none)
 | .call f args=>λC _ _ aq I=>(match B2 aq I args with|some cu=>tp C f cu|none=>none)
 | .fw b8 W=>λC h j aq I=>od W C h j (jE b8 aq I)
 |_=>λ_ _ _ _ _=>none
inductive akQ where|ix|make|fw
def np(W:ke):akQ:=match W with
 | .st .. => .fw| .call .. => .fw| .fw .. => .fw
 | .make .. => .make
 |_=> .ix
def Qr(W:ke)(C:aK)(h:Q af)(j:Nat)(aq:List (Nat×D))(I:Q D):Option ee:=
 rl j λj=>(match o5 W C j aq I with|some (v,cU)=>jU (bj C h j (some cU)) λh=>some (.fv v h (j+1))|none=>none)
def fG(m i:Nat):Bool:=Nat.beq (Nat.mod (Nat.div m (Nat.pow 2 i)) 2) 1
def nx(b8:List (Nat×Nat))(W:Operand):Option kT:=match W with
 | .tmp t=>(match ev b8 t with|some S=>some (.v S)|none=>some (.t t))
 | .const v=>(match F4 v with|some H=>some (.c H)|none=>none)
 | .global g=>some (.c (.ptr g 0))
 | .func f=>some (.c (.func (.func f) [] []))
def JC(b8:List (Nat×Nat)):List Operand->Option (List kT)
 |[]=>some []
 |x::l=>match nx b8 x,JC b8 l with|some v,some r=>some (v::r)|_,_=>none
def axF(C:aK)(s d:Nat):Bool:=match C.P.underlying s,C.P.underlying d with
 |some .string,some (.slice _)=>true
 |some (.slice _),some (.slice _)=>true
 |_,_=>false
def axC(C:aK)(t:Nat):Bool:=match C.P.underlying t with|some (.int _)=>true|_=>false
def mn(C:aK)(b8:List (Nat×Nat))(W:Op):Option ke:=
 match W with
 | .move x| .assign x=>(match nx b8 x with|some x=>some (.FS x)|none=>none)
 | .pick c H b=>(match nx b8 c,nx b8 H,nx b8 b with|some c,some H,some b=>some (.pick c H b)|_,_,_=>none)
 | .load t H=>(match nx b8 H,Fv C t,jO C t with
   |some H,some true,some s=>some (.CY s H)
   |some H,some false,_=>some (.eV H)
   |_,_,_=>none)
 | .fieldAddr s x f=>(match C.P.underlying s,nx b8 x with
   |some (.struct kk),some x=>(match sY kk.toList f with
    |some tx=>(match jO C tx.type with|some bm=>bW (Nat.beq bm 0) (none)<|some (.off tx.offset x)|none=>none)
    |none=>none)
   |_,_=>none)
 | .indexAddr t x i=>(match C.P.underlying t,nx b8 x,nx b8 i with
   |some (.array n ek),some x,some i=>(match jO C ek with|some bt=>some (.CP n bt x i)|none=>none)
   |some (.slice ek),some x,some i=>(match jO C ek with|some bt=>some (.CQ bt x i)|none=>none)
   |_,_,_=>none)
 | .nilCheck x=>(match nx b8 x with|some x=>some (.FX x)|none=>none)
 | .binOp op t x e JI=>bW (axC C t) ((match nx b8 x,nx b8 e with|some x,some e=>some (.L4 op x e)|_,_=>none))<|some (.ix b8 (.binOp op t x e JI))
 | .extract x i=>(match nx b8 x with|some x=>some (.ext i x)|none=>none)
 | .store t H x=>(match nx b8 H,nx b8 x,jO C t with|some H,some x,some s=>some (.st s H x)|_,_,_=>none)
 | .call ⟨.value (.func f),args,di⟩=>(match JC b8 args.toList with|some cu=>some (.call f cu)|none=>none)
 | .call ⟨.builtin b,args,di⟩=>(match b with
   | .len| .cap| .max| .min=>some (.ix b8 (.call ⟨.builtin b,args,di⟩))
   |_=>some (.fw b8 (.call ⟨.builtin b,args,di⟩)))
 | .call c=>some (.fw b8 (.call c))
 | .convert s d x=>bW (axF C s d) (some (.fw b8 (.convert s d x)))<|some (.ix b8 (.convert s d x))
 | .alloc t=>some (.make b8 (.alloc t))
 | .box t x=>some (.make b8 (.box t x))
 | .buildSlice t l p=>some (.make b8 (.buildSlice t l p))
 | .makeMap t none=>some (.make b8 (.makeMap t none))
 | .makeMap t (some r)=>some (.fw b8 (.makeMap t (some r)))
 | .mapUpdate t m z x=>some (.fw b8 (.mapUpdate t m z x))
 | .insert t m z x=>some (.fw b8 (.insert t m z x))
 | .mapEntry t m z=>some (.fw b8 (.mapEntry t m z))
 | .entryStore t m s x=>some (.fw b8 (.entryStore t m s x))
 | .makeSlice t l c=>some (.fw b8 (.makeSlice t l c))
 | .range t x=>some (.fw b8 (.range t x))
 | .next i s=>some (.fw b8 (.next i s))
 | .panic x=>some (.fw b8 (.panic x))
 | .defer c=>some (.fw b8 (.defer c))
 |W=>some (.ix b8 W)
def xH(S:Nat):List (Nat×Nat)->Option Nat
 |[]=>none
 |(t,i)::l=>bW (Nat.beq i S) (some t)<|xH S l
def Km(ep:List (Nat×Nat))(g:Option (Nat×Bool)):Option (Option (Nat×Bool)):=match g with
 |none=>some none
 |some (S,mc)=>(match xH S ep with
  |some t=>(match ev ep t with
   |some pZ=>bW (Nat.beq S pZ) (some (some (S,mc)))<|none
   |none=>none)
  |none=>none)
def y0(W:Oper)(i:Nat)(ep:List (Nat×Nat)):List (Nat×Nat):=match W.dst with|some d=>(d,i)::ep|none=>ep
def Oe(n:Nat)(W:Oper):Bool:=match W.dst with|some d=>Nat.blt d n|none=>true
def A5(C:aK)(ao:Nat)(b8:List (Nat×Nat))(W:Operand):Bool:=match W with
 | .tmp t=>(match ev b8 t with|some _=>true|none=>fG ao t)
 | .global g=>Nat.blt g C.jM
 |_=>true
def F6(C:aK)(ao:Nat)(b8:List (Nat×Nat)):List Operand->Bool
 |[]=>true
 |x::l=>A5 C ao b8 x&&F6 C ao b8 l
def tt(C:aK)(n ao:Nat):List Oper->Nat->List (Nat×Nat)->Option (List fz)
 |[],_,_=>some []
 |W::l,i,ep=>rl i λi=>match Km ep W.guard,mn C ep W.op with
  |some g,some op=>bW (Oe n W&&F6 C ao ep W.op.operands.toList) (match tt C n ao l (i+1) (y0 W i ep)with|some r=>some (⟨i,g,op⟩::r)|none=>none) none
  |_,_=>none
def lG(ao:Nat):List Oper->Nat->List (Nat×Nat)
 |[],_=>[]
 |W::l,i=>match W.dst with
  |some d=>bW (fG ao d) ((i,d)::lG ao l (i+1))<|lG ao l (i+1)
  |none=>lG ao l (i+1)
def dstsOf:List Oper->List Nat
 |[]=>[]
 |W::l=>match W.dst with|some d=>d::dstsOf l|none=>dstsOf l
structure RW where
 rest:List fz
 fin:List (Nat×Nat)
def Mx(C:aK)(n:Nat)(ar:Array Oper)(ao:Nat):Option RW:=
 match tt C n ao ar.toList 0 []with
 |some cs=>some ⟨cs,lG ao ar.toList 0⟩
 |none=>none
def Jd(W:Operand)(m:Nat):Nat:=match W with| .tmp t=>Nat.lor m (Nat.pow 2 t)|_=>m
def Je(l:List Operand):Nat:=l.foldr Jd 0
def Ky(W:Oper):Nat:=match W.dst with|some d=>Nat.pow 2 d|none=>0
def OK(ep:List (Nat×Nat))(g:Option (Nat×Bool)):Nat:=match g with
 |none=>0
 |some (S,_)=>(match xH S ep with|some t=>Nat.pow 2 t|none=>0)
def Er(iT:List (Nat×Nat))(E:Edge)(m:Nat):Nat:=
 bW (fG m E.on) (m)<|bW (Region.binds .any E) ((match ev iT E.on with|some z=>Nat.lor (Nat.lor m z) (Nat.pow 2 E.on)|none=>m))<|m
structure gI where
 i:Nat
 m:Nat
 r:Nat
 w:Nat
def Da:List Oper->Nat->List (Nat×Nat)->List (Nat×Nat)->List gI
 |[],_,_,_=>[]
 |W::l,i,ep,iT=>rl i λi=>rl (W.after.toList.foldr (Er iT) 0) λm=>
  ⟨i,m,Nat.lor (Je W.op.operands.toList) (OK ep W.guard),Ky W⟩::Da l (i+1) (y0 W i ep) ((i,m)::iT)
def QJ(H b:gI):Bool:=
 fG b.m H.i||(Nat.beq (Nat.land H.w (Nat.lor b.r b.w)) 0&&Nat.beq (Nat.land b.w H.r) 0)
def QL(H:gI):List gI->Bool
 |[]=>true
 |b::l=>QJ H b&&QL H l
def MG:List gI->Bool
 |[]=>true
 |H::l=>QL H l&&MG l
def Lm:List gI->Bool
 |[]=>true
 |H::l=>(match l with|[]=>true|b::_=>fG b.m H.i)&&Lm l
def F5:List Oper->Nat->Bool
 |[],_=>true
 |W::l,i=>W.after.toList.all (λE=> !Region.binds .any E||Nat.blt E.on i)&&F5 l (i+1)
def vO(m:Nat):List gI->Nat
 |[]=>0
 |a::l=>bW (fG m a.i) (Nat.succ (vO m l))<|vO m l
def Cr(i:Nat):List gI->Nat
 |[]=>0
 |a::l=>bW (fG a.m i) (0)<|Nat.succ (Cr i l)
structure qq where
 x:fz
 bL:Nat
 aG:Nat
def oA(W:ke):Bool:=match np W with| .fw=>true|_=>false
def Ic:List gI->List fz->List (gI×fz)
 |p::dq,c::cs=>bW (oA c.op) ((p,c)::Ic dq cs)<|Ic dq cs
 |_,_=>[]
def IW(aD:List gI):List gI->List fz->List qq
 |p::dq,c::cs=>bW (oA c.op) (IW aD dq cs)<|⟨c,vO p.m aD,Cr p.i aD⟩::IW aD dq cs
 |_,_=>[]
def uC(z:Nat):List qq->List fz
 |[]=>[]
 |l::fE=>bW (Nat.beq l.bL z) (l.x::uC z fE)<|uC z fE
def Gi(z:Nat):List qq->List fz
 |[]=>[]
 |l::fE=>bW (Nat.blt l.bL z&&Nat.ble z l.aG&&Dt l.x.op) (l.x::Gi z fE)<|Gi z fE
def A1(fE:List qq):Nat->List (gI×fz)->List xo
 |z,[]=>[⟨uC z fE,Gi z fE,none⟩]
 |z,(_,ae)::l=>⟨uC z fE,Gi z fE,some ae⟩::A1 fE (z+1) l
def rm:List (gI×fz)->List gI
 |[]=>[]
 |(p,_)::l=>p::rm l
structure RV where
 lS:List xo
 fin:List (Nat×Nat)
def Mw(C:aK)(n:Nat)(ar:Array Oper)(ao:Nat):Option RV:=
 match tt C n ao ar.toList 0 []with
 |none=>none
 |some cs=>(λall=>(λaD=>bW (F5 ar.toList 0&&MG all&&Lm (rm aD)) (some ⟨A1 (IW (rm aD) all cs) 0 aD,lG ao ar.toList 0⟩)<|none) (Ic all cs)) (Da ar.toList 0 [] [])
def adK:List Oper->Nat->Nat->Nat
 |[],_,r=>r
 |W::l,adg,r=>adK l (Nat.lor adg (Ky W)) ((λrd=>Nat.lor r (Nat.xor rd (Nat.land rd adg))) (Je W.op.operands.toList))
def kK:Code->Nat
 | .region _ ar _=>adK ar.toList 0 0
 | .seq H b=>Nat.lor (kK H) (kK b)
 | .cond c H b=>Jd c (Nat.lor (kK H) (kK b))
 | .block _ b=>kK b
 | .loop b=>kK b
 | .scope b=>kK b
 | .rangeFunc f _ H b=>Jd f (Nat.lor (kK H) (kK b))
 |_=>0
def oH(l:List ResultVar):Nat:=l.foldr (λx r=>match x with| .tmp t=>Nat.lor r (Nat.pow 2 t)| .cell H _=>Nat.lor r (Nat.pow 2 H)) 0
def mo(C:aK)(ao:Nat):Code->Bool
 | .seq H b=>mo C ao H&&mo C ao b
 | .cond c H b=>A5 C ao [] c&&(mo C ao H&&mo C ao b)
 | .block _ b=>mo C ao b
 | .loop b=>mo C ao b
 | .scope b=>mo C ao b
 | .rangeFunc f _ H b=>A5 C ao [] f&&(mo C ao H&&mo C ao b)
 |_=>true
def A8(ao:Nat):List ResultVar->Bool
 |[]=>true
 | .tmp t::l=>fG ao t&&A8 ao l
 | .cell H _::l=>fG ao H&&A8 ao l
end
end Go.bd
@[match_pattern]abbrev Go.bd.D.Z(x:Int):Go.bd.D:=.int .i64 x
@[match_pattern]abbrev Go.bd.D.zF:Go.bd.D:=.bool false
@[match_pattern]abbrev Go.bd.D.zT:Go.bd.D:=.bool true
namespace Go.bd
@[simp] def fo{α:Type _}(H b:α):bW true H b=H:=rfl
@[simp] def lD{α:Type _}(H b:α):bW false H b=b:=rfl
def fN{α:Type _}(c:Bool)(H b:α):bW c H b=if c=true then H else b:=by cases c<;>rfl
def h4{α:Type _}(x e:Nat)(H b:α):bW (Nat.beq x e) H b=if x=e then H else b:=by
 rw[fN];by_cases a:x=e
 ·rw[Zr a,Zr (Nat.beq_eq▸a)]
 ·rw[Zh a,Zh (λE=>a (Zn E))]
@[simp] def e7{α:Type _}(c:Bool)(H:Option α)(v:α):bW c H none=some v↔c=true/\H=some v:=by cases c<;>simp
@[simp] def mM{eZ:Type}(n:Nat)(z:Nat->eZ):rl n z=z n:=by cases n<;>rfl
@[simp] def HI{eZ:Type}(n:Int)(z:Int->eZ):TC n z=z n:=by
  cases n with
  |ofNat m=>exact mM m λm=>z (.ofNat m)
  |negSucc m=>exact mM m λm=>z (.negSucc m)
@[simp] def hE{α eZ:Type}(t:Q α)(z:Q α->eZ):jU t z=z t:=by cases t<;>rfl
@[simp] def apM{α:Type}(S:Nat):ev ([]:List (Nat×α)) S=none:=rfl
def sm{α:Type}(H:Nat)(b:α)(l:List (Nat×α))(S:Nat):ev ((H,b)::l) S=if H=S then some b else ev l S:=by
 show bW (Nat.beq H S) (some b) (ev l S)=_
 rw[h4]
@[simp] def qT{α:Type}(l:List α):∀i,sY l i=l[i]? :=by
  induction l with
  |nil=>intro i;rfl
  |cons H l ai=>intro i;cases i with
   |zero=>rfl
   |succ S=>exact ai S
namespace Q
variable{α:Type}
@[simp] def aET(i:Nat):(Q.nil:Q α).get i=none:=rfl
@[simp] def aEU(v:Option α)(l r:Q α):(Q.node v l r).get 0=v:=rfl
def B9(v:Option α)(l r:Q α)(S:Nat):(Q.node v l r).get (S+1)=if S%2=0 then l.get (S/2)else r.get (S/2):=by
 show bW (Nat.beq (S%2) 0) (l.get (S/2)) (r.get (S/2))=_
 rw[h4]
def aCg(f:Nat)(H:Option α):s1 (f+1) Q.nil 0 H= .node H .nil .nil:=rfl
def aCf(f S:Nat)(H:Option α):s1 (f+1) Q.nil (S+1) H=
 if S%2=0 then .node none (s1 f .nil (S/2) H) .nil else .node none .nil (s1 f .nil (S/2) H):=by
 show bW (Nat.beq (S%2) 0) (jU (s1 f .nil (S/2) H) λce=>Q.node none ce Q.nil) (jU (s1 f .nil (S/2) H) λia=>Q.node none Q.nil ia)=_
 rw[h4,hE,hE]
def aCi(f:Nat)(v:Option α)(l r:Q α)(H:Option α):s1 (f+1) (.node v l r) 0 H= .node H l r:=rfl
def aCh(f S:Nat)(v:Option α)(l r:Q α)(H:Option α):s1 (f+1) (.node v l r) (S+1) H=
 if S%2=0 then .node v (s1 f l (S/2) H) r else .node v l (s1 f r (S/2) H):=by
 show bW (Nat.beq (S%2) 0) (jU (s1 f l (S/2) H) λce=>Q.node v ce r) (jU (s1 f r (S/2) H) λia=>Q.node v l ia)=_
 rw[h4,hE,hE]
def atc:∀(f:Nat) (t:Q α) (i S:Nat) (H:Option α),i<f->(s1 f t i H).get S=if i=S then H else t.get S:=by
 intro f
 induction f with
 |zero=>intro t i S H a;omega
 |succ f ai=>
  intro t i S H a
  cases i with
  |zero=>
   cases t with
   |nil=>rw[aCg];cases S with
    |zero=>simp
    |succ S=>rw[B9];simp
   |node v l r=>rw[aCi];cases S with
    |zero=>simp
    |succ S=>rw[B9,B9];simp
  |succ i=>
   have aG:i/2<f:=Zo
   cases t with
   |nil=>
    rw[aCf]
    cases S with
    |zero=>split<;>simp
    |succ S=>
     by_cases E:i%2=0
     ·rw[Zr E,B9]
      by_cases iM:S%2=0
      ·rw[Zr iM,ai _ _ _ _ aG]
       by_cases aj:i/2=S/2
       ·rw[Zr aj,Zr Zo]
       ·rw[Zh aj,Zh Zo];rfl
      ·rw[Zh iM,Zh Zo];rfl
     ·rw[Zh E,B9]
      by_cases iM:S%2=0
      ·rw[Zr iM,Zh Zo];rfl
      ·rw[Zh iM,ai _ _ _ _ aG]
       by_cases aj:i/2=S/2
       ·rw[Zr aj,Zr Zo]
       ·rw[Zh aj,Zh Zo];rfl
   |node v l r=>
    rw[aCh]
    cases S with
    |zero=>split<;>simp
    |succ S=>
     rw[B9 v l r]
     by_cases E:i%2=0
     ·rw[Zr E,B9]
      by_cases iM:S%2=0
      ·rw[Zr iM,Zr iM,ai _ _ _ _ aG]
       by_cases aj:i/2=S/2
       ·rw[Zr aj,Zr Zo]
       ·rw[Zh aj,Zh Zo]
      ·rw[Zh iM,Zh iM,Zh Zo]
     ·rw[Zh E,B9]
      by_cases iM:S%2=0
      ·rw[Zr iM,Zr iM,Zh Zo]
      ·rw[Zh iM,Zh iM,ai _ _ _ _ aG]
       by_cases aj:i/2=S/2
       ·rw[Zr aj,Zr Zo]
       ·rw[Zh aj,Zh Zo]
def kW(t:Q α)(i S:Nat)(H:Option α):(t.set i H).get S=if i=S then H else t.get S:=atc _ _ _ _ _ Zo
def OC(l:List α):∀(i:Nat) (t:Q α) (S:Nat),(ofList l i t).get S=if i<=S/\S<i+l.length then l[S-i]? else t.get S:=by
 induction l with
 |nil=>intro i t S;simp only[ofList,Z5];rw[Zh Zo]
 |cons H l ai=>
  intro i t S
  simp only[ofList,hE]
  rw[ai,kW]
  by_cases E:i=S
  ·subst E;rw[Zh Zo,Zr rfl,Zr Zs];simp
  ·rw[Zh E]
   by_cases aj:i+1<=S/\S<i+1+l.length
   ·rw[Zr aj,Zr Zx]
    have:S-i=(S-(i+1))+1:=Zo
    rw[this,Z3]
   ·rw[Zh aj,Zh Zx]
def TQ(t:Q α):∀(n W:Nat) (l:List α),t.li W n=some l->l.length=n/\∀i,i<n->t.get (W+i)=l[i]? :=by
 intro n
 induction n with
 |zero=>intro W l a;simp[li]at a;subst a;simp
 |succ n ai=>
  intro W l a
  simp only[li]at a
  cases b2:t.get W with
  |none=>simp[b2]at a
  |some H=>
   simp only[b2]at a
   cases Y:li t (W+1) n with
   |none=>simp[Y]at a
   |some r=>
    simp only[Y,Zf]at a
    subst a
    obtain⟨M,R⟩:=ai _ _ Y
    refine⟨by simp[M],λi aG=> ?_⟩
    cases i with
    |zero=>simpa using b2
    |succ i=>rw[show W+(i+1)=W+1+i by omega,R i Zo];simp
end Q
def X1(l:List D):∀(c:Q D) (W:Nat),dS c W l=Q.ofList l W c:=by
 induction l with
 |nil=>intro c W;rfl
 |cons v l ai=>intro c W;simp only[dS,Q.ofList,hE];exact ai _ _
structure m8 where
 cL:Nat
 ei:Nat
 room:Nat
 deriving Inhabited
abbrev db:=Nat->m8
def nK(T:db):Fn->Fn
 | .yield l=> .yield (T l).cL
 |f=>f
def gg(s:List Nat):ByteArray:=⟨(s.map UInt8.ofNat).toArray⟩
mutual
def aQ(T:db):D->Value
 | .bool b=> .bool b
 | .int z n=> .int z n
 | .str s=> .string (gg s)
 | .ptr b W=> .pointer (some ⟨(T b).cL,(T b).ei+W,none⟩)
 | .cJ=> .pointer none
 | .slice b W len cap=> .slice (some ⟨(T b).cL,(T b).ei+W,none⟩) len cap
 | .fj b W len bt=> .slice (some ⟨(T b).cL,(T b).ei+W,none⟩) len (((T b).room-W)/bt)
 | .aV=> .slice none 0 0
 | .map m=> .map (some (T m).cL)
 | .mF=> .map none
 | .func fn H b=> .func (nK T fn) (b4 T H).toArray (b4 T b).toArray
 | .nilFunc=> .nilFunc
 | .iface t v=> .iface t (aQ T v)
 | .nilIface=> .nilIface
 | .agg cs=> .agg (b4 T cs).toArray
 | .tuple br=> .tuple (b4 T br).toArray
def b4(T:db):List D->List Value
 |[]=>[]
 |v::l=>aQ T v::b4 T l
end
def qw(T:db)(l:List D):b4 T l=l.map (aQ T):=by
 induction l with
 |nil=>rfl
 |cons v l ai=>simp[b4,ai]
def OE(ad:Nat->Prop):Fn->Prop
 | .yield l=>ad l
 | .func _=>True
 |_=>False
mutual
def cm(ad:Nat->Prop):D->Prop
 | .bool _=>True
 | .int _ _=>True
 | .str s=>∀x∈s,x<256
 | .ptr b _=>ad b
 | .cJ=>True
 | .slice b _ _ _=>ad b
 | .fj b _ _ _=>ad b
 | .aV=>True
 | .map m=>ad m
 | .mF=>True
 | .func fn H b=>OE ad fn/\ew ad H/\ew ad b
 | .nilFunc=>True
 | .iface _ v=>cm ad v
 | .nilIface=>True
 | .agg cs=>ew ad cs
 | .tuple br=>ew ad br
def ew(ad:Nat->Prop):List D->Prop
 |[]=>True
 |v::l=>cm ad v/\ew ad l
end
def vY(ad:Nat->Prop)(l:List D):ew ad l↔∀v∈l,cm ad v:=by
 induction l with
 |nil=>simp[ew]
 |cons v l ai=>simp[ew,ai]
mutual
def SZ{T iV:db}{ad:Nat->Prop}(a:∀b,ad b->T b=iV b):∀v,cm ad v->aQ T v=aQ iV v
 | .bool _,_=>rfl
 | .int _ _,_=>rfl
 | .str _,_=>rfl
 | .ptr b W,g=>by simp only[aQ,a b g]
 | .cJ,_=>rfl
 | .slice b W l c,g=>by simp only[aQ,a b g]
 | .fj b W l c,g=>by simp only[aQ,a b g]
 | .aV,_=>rfl
 | .map m,g=>by simp only[aQ,a m g]
 | .mF,_=>rfl
 | .func fn H b,g=>by
   obtain⟨bI,bN,cH⟩:=g
   have E:nK T fn=nK iV fn:=by
    cases fn<;>simp only[nK]
    rw[a _ bI]
   simp only[aQ,E,Hy a H bN,Hy a b cH]
 | .nilFunc,_=>rfl
 | .iface t v,g=>by simp only[aQ,SZ a v g]
 | .nilIface,_=>rfl
 | .agg cs,g=>by simp only[aQ,Hy a cs g]
 | .tuple br,g=>by simp only[aQ,Hy a br g]
def Hy{T iV:db}{ad:Nat->Prop}(a:∀b,ad b->T b=iV b):∀l,ew ad l->b4 T l=b4 iV l
 |[],_=>rfl
 |v::l,g=>by simp only[b4,SZ a v g.1,Hy a l g.2]
end
mutual
def pO{ad dm:Nat->Prop}(a:∀b,ad b->dm b):∀v,cm ad v->cm dm v
 | .bool _,_=>trivial
 | .int _ _,_=>trivial
 | .str _,g=>g
 | .ptr b _,g=>a b g
 | .cJ,_=>trivial
 | .slice b _ _ _,g=>a b g
 | .fj b _ _ _,g=>a b g
 | .aV,_=>trivial
 | .map m,g=>a m g
 | .mF,_=>trivial
 | .func fn H b,g=>⟨by cases fn<;>first|exact a _ g.1|exact g.1,sv a H g.2.1,sv a b g.2.2⟩
 | .nilFunc,_=>trivial
 | .iface _ v,g=>pO a v g
 | .nilIface,_=>trivial
 | .agg cs,g=>sv a cs g
 | .tuple br,g=>sv a br g
def sv{ad dm:Nat->Prop}(a:∀b,ad b->dm b):∀l,ew ad l->ew dm l
 |[],_=>trivial
 |v::l,g=>⟨pO a v g.1,sv a l g.2⟩
end
open Go.RowKit (Below)
structure jQ(T:db)(ad:Nat->Prop)(n ao:Nat)(I:Q D)(tmps:Array Value):Prop where
 size:tmps.size=n
 val:∀t v,fG ao t=true->I.get t=some v->tmps[t]? =some (aQ T v)/\cm ad v
def RZ(C:aK)(fn ao:Nat):Prop:=∃f,C.P.funcs[fn]? =some f/\A8 ao f.results.toList=true
def IP(c:Code):Prop:=c= .ret\/∃id,c= .exit id
def Ee(T:db):RF->Target
 | .fn fn fY=> .fn (nK T fn) (b4 T fY).toArray
 | .collected r=> .collected (T r).cL
def mm(T:db)(d:h3):Deferred:=⟨Ee T d.target,(b4 T d.args).toArray⟩
def atl(ad:Nat->Prop):RF->Prop
 | .fn fn fY=>OE ad fn/\ew ad fY
 | .collected r=>ad r
def xP(ad:Nat->Prop)(d:h3):Prop:=atl ad d.target/\ew ad d.args
def Ha(st:oU)(n:Nat)(pl:m8)(bt bL aG:Nat):Prop:=match st with
 | .own=>bL=aG
 | .marked=>bL=aG\/bt<=bL
 | .grow _=>(bL=aG\/bt<=bL)/\n<=pl.room/\pl.ei+pl.room<=bt
 | .kw=>True/\n<=pl.room/\pl.ei+pl.room<=bt
def Ha.free{st:oU}{n:Nat}{pl:m8}{bt bL aG:Nat}(a:Ha st n pl bt bL aG)(kG:st≠ .kw):aG<=bL\/bt<=bL:=by
 cases st with
 |own=>exact .inl (zd a.symm)
 |marked=>exact a.imp (λE=>zd E.symm) id
 |grow _=>exact a.1.imp (λE=>zd E.symm) id
 |kw=>exact absurd rfl kG
def ms(T:db)(E:D×D×Nat):MapEntry:=⟨aQ T E.1,aQ T E.2.1,E.2.2⟩
def kA(C:aK)(T:db)(ad:Nat->Prop)(W:af)(pl:m8)(w:World):Prop:=match W with
 | .cells c n st=>∃cp ty bL aG,w.heap[pl.cL]? =some (.cells cp ty (bL,aG))/\Ha st n pl cp.size bL aG/\pl.ei+n<=cp.size/\
    ∀i v,c.get i=some v->cp[pl.ei+i]? =some (aQ T v)/\cm ad v
 | .map cb fe=>∃cp,w.heap[pl.cL]? =some (.map cp fe)/\cp.toList=cb.map (ms T)/\∀E∈cb,cm ad E.1/\cm ad E.2.1
 | .look cb=>∃(cp:Array MapEntry) (fe:Nat) (mK:List (D×D×Nat)),w.heap[pl.cL]? =some (.map cp fe)/\cp.toList=mK.map (ms T)/\(mK.map λE=>(E.1,E.2.1)).Perm cb/\∀E∈mK,cm ad E.1/\cm ad E.2.1
 | .pp s pos=>pl.ei=0/\w.heap[pl.cL]? =some (.stringIter (gg s) pos)/\∀x∈s,x<256
 | .A0 m wX seen st=>pl.ei=0/\w.heap[pl.cL]? =some (.mapIter (m.map λb=>(T b).cL) wX seen.toArray st)/\∀b,m=some b->ad b
 | .I1 m wX n cO st gY=>pl.ei=0/\ad m/\∃seen:List Nat,w.heap[pl.cL]? =some (.mapIter (some (T m).cL) wX seen.toArray st)/\(cO.filter λb=> !seen.contains b).length<=n/\∀b,gY=some b->ahJ seen=some b
 | .loop state pending fn n ao I params assign body bh=>∃tmps,w.heap[pl.cL]? =some (.loop ⟨state,pending,fn,tmps,params.toArray,assign,body,(T bh).cL⟩)/\jQ T ad n ao I tmps/\ad bh/\
    mo C ao assign=true/\mo C ao body=true/\(∀c,pending=some c->IP c)/\RZ C fn ao
 | .deferred qu=>w.heap[pl.cL]? =some (.deferred (qu.map λl=>l.map (mm T)))/\∀l,qu=some l->∀d∈l,xP ad d
def Sf(W o':af)(b dM:Nat):Prop:=
 (∃c n fS aN,W= .cells c n .kw/\o'= .cells fS aN .kw)\/
 (∃c n l fS aN,W= .cells c n (.grow l)/\o'= .cells fS aN .kw/\dM∈l/\aN<=n)\/
 (∃c n l fS aN,o'= .cells fS aN (.grow l)/\W= .cells c n .kw/\b∈l/\n<=aN)
def xl(C:aK)(ad:Nat->Prop)(W:af):Prop:=(∀c n l,W= .cells c n (.grow l)->∀x∈l,ad x/\C.a2<=x)/\∀c n st,W= .cells c n st->∀i v,c.get i=some v->i<n
structure dn(C:aK)(T:db)(ad:Nat->Prop)(h:Q af)(j bo:Nat)(w:World):Prop where
 a2:C.a2<=j
 lt:∀b,ad b->b<j
 wQ:∀b W,U C h b=some W->b<j
 obj:∀b W,U C h b=some W->ad b->kA C T ad W (T b) w
 sep:∀b dM W o',U C h b=some W->U C h dM=some o'->ad b->ad dM->b≠dM->C.a2<=b->(T b).cL=(T dM).cL->Sf W o' b dM/\(T b).ei=(T dM).ei
 base:∀b W,C.a2<=b->U C h b=some W->ad b->bo<=(T b).cL
 fp:∀b W,U C h b=some W->ad b->xl C ad W
def jP(T:db)(ad:Nat->Prop)(av:Operand->Value)(eE:Operand->Option D)(l:List Operand):Prop:=
 ∀x∈l,∀v,eE x=some v->av x=aQ T v/\cm ad v
section
variable{C:aK}{T:db}{ad:Nat->Prop}{h:Q af}{j bo:Nat}{w:World}
def SI(s:ByteArray):gg (s.data.toList.map (·.toNat))=s:=by
 unfold gg
 rw[YI]
 have:(UInt8.ofNat∘λx:UInt8=>x.toNat)=id:=by funext x;simp
 rw[this]
 simp
def azn{α eZ:Type}(f:α->Option eZ):∀(l:List α) (r:List eZ),C7 f l=some r->r.length=l.length/\∀(i:Nat) (H:α),l[i]? =some H->∃b,r[i]? =some b/\f H=some b:=by
 intro l
 induction l with
 |nil=>intro r a;simp[C7]at a;subst a;simp
 |cons H l ai=>
  intro r a
  simp only[C7]at a
  cases b7:f H with
  |none=>simp[b7]at a
  |some b=>
   simp only[b7]at a
   cases Y:C7 f l with
   |none=>simp[Y]at a
   |some ia=>
    simp only[Y,Zf]at a
    subst a
    obtain⟨M,R⟩:=ai _ Y
    refine⟨by simp[M],λi x ae=> ?_⟩
    cases i with
    |zero=>simp at ae;subst ae;exact⟨b,Zs,b7⟩
    |succ i=>simp at ae;obtain⟨e,B,axl⟩:=R i x ae;exact⟨e,by simpa using B,axl⟩
def aAa(T:db)(ad:Nat->Prop):∀(n:Nat) (v:Value) (H:D),Df n v=some H->v=aQ T H/\cm ad H:=by
 intro n
 induction n with
 |zero=>intro v H a;simp[Df]at a
 |succ n ai=>
  have list:∀(l:List Value) (r:List D),C7 (Df n) l=some r->l=b4 T r/\ew ad r:=by
   intro l r a
   obtain⟨M,R⟩:=azn _ l r a
   constructor
   ·rw[qw]
    apply Y9
    intro i
    rw[Zu]
    cases ae:l[i]? with
    |none=>
     have:l.length<=i:=by simpa using ae
     rw[Z4 Zo];rfl
    |some x=>
     obtain⟨b,ag,km⟩:=R i x ae
     rw[ag,(ai _ _ km).1];rfl
   ·rw[vY]
    intro v bB
    obtain⟨i,aG⟩:=ZZ.1 bB
    have cZ:i<l.length:=by
     have:=(Zc.1 aG).1;omega
    obtain⟨b,ag,km⟩:=R i l[i] (Ze cZ)
    rw[aG]at ag;simp at ag;subst ag
    exact(ai _ _ km).2
  intro v H a
  unfold Df at a
  split at a<;>(try(simp at a;subst a;simp[aQ,cm,nK,b4,OE,ew];done))
  ·simp at a;subst a
   refine⟨by simp only[aQ];rw[SI], ?_⟩
   simp only[cm]
   intro x ae
   obtain⟨e,_,rfl⟩:=ZI.1 ae
   exact e.toNat_lt
  ·rename_i t v
   split at a
   ·rename_i fL az
    simp at a;subst a
    obtain⟨E,g⟩:=ai _ _ az
    exact⟨by simp only[aQ,E],g⟩
   ·simp at a
  ·rename_i cs
   split at a
   ·rename_i l aC
    simp at a;subst a
    obtain⟨E,g⟩:=list _ _ aC
    exact⟨by simp only[aQ];rw[<-E],g⟩
   ·simp at a
  ·rename_i cs
   split at a
   ·rename_i l aC
    simp at a;subst a
    obtain⟨E,g⟩:=list _ _ aC
    exact⟨by simp only[aQ];rw[<-E],g⟩
   ·simp at a
  ·simp at a
def QF{v:Value}{H:D}(a:F4 v=some H):v=aQ T H/\cm ad H:=aAa T ad _ _ _ a
def sl(b W i:Nat):(⟨b,W,none⟩:Addr).add i=⟨b,W+i,none⟩:=by unfold Addr.add;split<;>simp_all
def aqt(Y:dn C T ad h j bo w){b:Nat}(ag:ad b){c:Q D}(a:cellsOf C h b=some c):
 ∃cp ty bL aG,w.heap[(T b).cL]? =some (.cells cp ty (bL,aG))/\∀i v,c.get i=some v->cp[(T b).ei+i]? =some (aQ T v)/\cm ad v:=by
 unfold cellsOf at a
 split at a
 ·rename_i fS n st bf
  simp at a;subst a
  obtain⟨cp,ty,bL,aG,M,_,_,aA⟩:=Y.obj b _ bf ag
  exact⟨cp,ty,bL,aG,M,aA⟩
 ·simp at a
def acW(Y:dn C T ad h j bo w){b:Nat}(ag:ad b){c:Q D}(a:cellsOf C h b=some c){W:Nat}{v:D}(b2:c.get W=some v):
 w.cell? ⟨(T b).cL,(T b).ei+W,none⟩=some (aQ T v)/\cm ad v:=by
 obtain⟨cp,ty,bL,aG,M,aA⟩:=aqt Y ag a
 obtain⟨bv,b9⟩:=aA W v b2
 exact⟨by simp[World.cell?,M,bv],b9⟩
def N2(Y:dn C T ad h j bo w){b:Nat}(ag:ad b){c:Q D}(a:cellsOf C h b=some c){W n:Nat}{l:List D}(b2:c.li W n=some l):
 (loadCells ⟨(T b).cL,(T b).ei+W,none⟩ n).run C.P w= .ok (b4 T l).toArray w/\ew ad l:=by
 obtain⟨M,R⟩:=Q.TQ _ _ _ _ b2
 have key:∀i v,l[i]? =some v->w.cell? ⟨(T b).cL,(T b).ei+W+i,none⟩=some (aQ T v)/\cm ad v:=by
  intro i v aG
  have cZ:i<n:=zs (Zc.1 aG).1
  have:=acW Y ag a (W:=W+i) (v:=v) (by rw[R i cZ,aG])
  rwa[<-ZK]at this
 constructor
 ·have aC:=run_loadCells_list (P:=C.P) w ⟨(T b).cL,(T b).ei+W,none⟩ (b4 T l) (λS v bB=>by
   rw[sl]
   rw[qw,Zu]at bB
   cases ae:l[S]? with
   |none=>simp[ae]at bB
   |some H=>simp[ae]at bB;subst bB;exact(key S H ae).1)
  have fg:(b4 T l).length=n:=by rw[qw,Zi,M]
  rw[fg]at aC
  exact aC
 ·rw[vY]
  intro v bB
  obtain⟨i,aG⟩:=ZZ.1 bB
  exact(key i v aG).2
def aDh{t n:Nat}(a:jO C t=some n):∃i,C.P.info? t=some i/\i.size=n:=by
 unfold jO at a
 cases aG:C.P.info? t with
 |none=>simp[aG]at a
 |some i=>simp[aG]at a;exact⟨i,rfl,a⟩
def qb{t n:Nat}(a:jO C t=some n)(w:World):(sizeOf t).run C.P w= .ok n w:=by
 obtain⟨i,aG,rfl⟩:=aDh a
 simp[sizeOf,typeInfo,aG]
def Gl{t:Nat}{bm:D}(a:uz C t=some bm)(T:db)(ad:Nat->Prop)(w:World):(zeroValue t).run C.P w= .ok (aQ T bm) w/\cm ad bm:=by
 unfold uz at a
 cases aG:C.P.info? t with
 |none=>simp[aG]at a
 |some i=>
  simp only[aG]at a
  cases ch:i.zero with
  |none=>simp[ch]at a
  |some v=>
   simp only[ch]at a
   obtain⟨E,g⟩:=QF (T:=T) (ad:=ad) a
   exact⟨by simp[zeroValue,typeInfo,aG,ch,E],g⟩
def Q7{t:Nat}{b:Bool}(a:Fv C t=some b)(w:World):(isAgg t).run C.P w= .ok b w:=by
 unfold Fv at a
 cases bg:C.P.underlying t with
 |none=>simp[bg]at a
 |some d=>
  simp only[bg]at a
  cases d<;>simp at a<;>subst a<;>simp[isAgg,run_underlying bg]
end
section
variable{C:aK}{T:db}{ad:Nat->Prop}{h:Q af}{j bo:Nat}{w:World}
def oi{ep:List (Nat×Nat)}{x:Operand}{oh:kT}(a:nx ep x=some oh)(aq:List (Nat×D))(I:Q D):lF oh aq I=jE ep aq I x:=by
 cases x with
 |tmp t=>
  simp only[nx]at a
  cases az:ev ep t with
  |none=>simp[az]at a;subst a;simp[lF,jE,az]
  |some S=>simp[az]at a;subst a;simp[lF,jE,az]
 |const v=>
  simp only[nx]at a
  cases bB:F4 v with
  |none=>simp[bB]at a
  |some H=>simp[bB]at a;subst a;simp[lF,jE,bB]
 |global g=>simp[nx]at a;subst a;rfl
 |func f=>simp[nx]at a;subst a;rfl
def ar4{ep:List (Nat×Nat)}(aq:List (Nat×D))(I:Q D):∀{l:List Operand}{cs:List kT}{br:List D},JC ep l=some cs->B2 aq I cs=some br->
 br.length=l.length/\∀(i:Nat) x,l[i]? =some x->∃v,br[i]? =some v/\jE ep aq I x=some v:=by
 intro l
 induction l with
 |nil=>intro cs br M R;simp[JC]at M;subst M;simp[B2]at R;subst R;simp
 |cons x l ai=>
  intro cs br M R
  simp only[JC]at M
  cases ae:nx ep x with
  |none=>simp[ae]at M
  |some oh=>
   cases aC:JC ep l with
   |none=>simp[ae,aC]at M
   |some tu=>
    simp[ae,aC]at M;subst M
    simp only[B2]at R
    cases bB:lF oh aq I with
    |none=>simp[bB]at R
    |some v=>
     cases Y:B2 aq I tu with
     |none=>simp[bB,Y]at R
     |some r=>
      simp[bB,Y]at R;subst R
      obtain⟨H,b⟩:=ai aC Y
      refine⟨by simp[H],λi e B=> ?_⟩
      cases i with
      |zero=>simp at B;subst B;exact⟨v,Zs,by rw[<-oi ae];exact bB⟩
      |succ i=>simp at B;simpa using b i e B
def ar2{av:Operand->Option D}:∀{l:List Operand}{br:List D},qz av l=some br->
 br.length=l.length/\∀(i:Nat) x,l[i]? =some x->∃v,br[i]? =some v/\av x=some v:=by
 intro l
 induction l with
 |nil=>intro br a;simp[qz]at a;subst a;simp
 |cons x l ai=>
  intro br a
  simp only[qz]at a
  cases ae:av x with
  |none=>simp[ae]at a
  |some v=>
   cases aC:qz av l with
   |none=>simp[ae,aC]at a
   |some r=>
    simp[ae,aC]at a;subst a
    obtain⟨H,b⟩:=ai aC
    refine⟨by simp[H],λi e B=> ?_⟩
    cases i with
    |zero=>simp at B;subst B;exact⟨v,Zs,ae⟩
    |succ i=>simp at B;simpa using b i e B
def ah8{av:Operand->Value}{eE:Operand->Option D}{l:List Operand}{br:List D}(cC:jP T ad av eE l)(M:br.length=l.length)
 (R:∀(i:Nat) x,l[i]? =some x->∃v,br[i]? =some v/\eE x=some v):l.map av=b4 T br/\ew ad br:=by
 constructor
 ·rw[qw]
  apply Y9
  intro i
  rw[Zu,Zu]
  cases ae:l[i]? with
  |none=>
   have:l.length<=i:=by simpa using ae
   rw[Z4 Zo];rfl
  |some x=>
   obtain⟨v,bB,bC⟩:=R i x ae
   rw[bB]
   simp[(cC x (Zl ae) v bC).1]
 ·rw[vY]
  intro v bB
  obtain⟨i,aG⟩:=ZZ.1 bB
  have cZ:i<l.length:=zs (Zc.1 aG).1
  obtain⟨ac,bg,bC⟩:=R i l[i] (Ze cZ)
  rw[aG]at bg;simp at bg;subst bg
  exact(cC _ (List.getElem_mem cZ) v bC).2
def xt{av:Operand->Value}{eE:Operand->Option D}{H:Array Operand}{br:List D}(cC:jP T ad av eE H.toList)(a:qz eE H.toList=some br):
 H.map av=(b4 T br).toArray/\ew ad br:=by
 obtain⟨M,R⟩:=ar2 a
 obtain⟨ak,aA⟩:=ah8 cC M R
 refine⟨?_,aA⟩
 apply Y1
 simp[ak]
def akl(z:IntKind)(n:Int):qj z n=z.wrap n:=by
 cases z<;>simp only[qj]<;>try rfl
 simp only[fN,IntKind.wrap,IntKind.bits,IntKind.signed,Zg,zi,ge_iff_le]
 have bz:((2:Int)^64)=18446744073709551616:=by decide
 have cF:((2:Int)^(64-1))=9223372036854775808:=by decide
 rw[bz,cF]
 by_cases a:n%18446744073709551616<9223372036854775808
 ·rw[Zr a,Zh (by simpa using a)]
 ·rw[Zh a,Zr (by simpa using a)]
@[simp] def aGn(z:IntKind)(n:Int):lM z n=some (.int z (z.wrap n)):=by simp[lM,akl]
@[simp] def ahe(z:IntKind)(n:Int):qO z n=some (.int z n):=by simp[qO]
@[simp] def xA(b:Bool):nI b=some (.bool b):=by cases b<;>rfl
@[simp] def Hw{α:Type _}(c:Bool)(H:Option α)(v:α):bW c none H=some v↔c=false/\H=some v:=by cases c<;>simp
@[simp] def CO(x e:Int):u7 x e=decide (x=e):=by
  rw[Ya,Zg]
  cases x<;>cases e
  ·exact⟨λa=>by rw[Zn a],λa=>by cases a;exact ze _⟩
  ·exact⟨(λa=>by cases a),(λa=>by cases a)⟩
  ·exact⟨(λa=>by cases a),(λa=>by cases a)⟩
  ·exact⟨λa=>by rw[Zn a],λa=>by cases a;exact ze _⟩
@[simp] def u9(x e:Int):AT x e=decide (x<e):=by
  rw[Ya,Zg]
  cases x with
  |ofNat H=>cases e with
   |ofNat b=>show Nat.blt H b=true↔(H:Int)<(b:Int);simp[Nat.blt];omega
   |negSucc b=>show false=true↔(H:Int)<Int.negSucc b;simp;omega
  |negSucc H=>cases e with
   |ofNat b=>show true=true↔Int.negSucc H<(b:Int);simp;omega
   |negSucc b=>show Nat.blt b H=true↔Int.negSucc H<Int.negSucc b;simp[Nat.blt];omega
@[simp] def ahw(z eY:IntKind):mU z eY=decide (z=eY):=by cases z<;>cases eY<;>rfl
@[simp] def aqa(H b:Bool):Hr H b=(H==b):=by cases H<;>cases b<;>rfl
def aph{op:BinOp}{z:IntKind}{x e:Int}{v:D}(t:TypeId)(a:mi op z x e=some v)(aD:mB op=false):
 (binOp op t (.int z x) (.int z e)).run C.P w= .ok (aQ T v) w/\cm ad v:=by
 cases op<;>simp[mi,mB,binOp,Op.intArith,Op.intDiv,Op.intBits,Op.intCmp]at a aD ⊢ <;>
  first
  |(subst a;simp[aQ,cm];done)
  |(obtain⟨M,a⟩:=a;subst a;simp[aQ,cm,M];done)
  |(subst a;exact⟨rfl,trivial⟩)
  |(subst a;refine⟨?_,trivial⟩;simp only[aQ];congr 1;rw[Ya];simp;done)
def apo{op:BinOp}{z eY:IntKind}{x e:Int}{v:D}(t:TypeId)(a:Kb op z x e=some v):
 (binOp op t (.int z x) (.int eY e)).run C.P w= .ok (aQ T v) w/\cm ad v:=by
 unfold Kb at a
 simp only[u9,Hw,Zb]at a
 obtain⟨M,a⟩:=a
 cases op<;>simp[binOp,Op.shift,M]at a ⊢
 all_goals(subst a;simp[aQ,cm])
def acd{op:BinOp}{x e v:D}(t:TypeId)(a:bn op x e=some v):
 (binOp op t (aQ T x) (aQ T e)).run C.P w= .ok (aQ T v) w/\cm ad v/\∃z H eY b,x= .int z H/\e= .int eY b:=by
 unfold bn at a
 split at a
 ·rename_i z H eY b
  simp only[aQ]
  by_cases aD:mB op=true
  ·simp only[aD,fo]at a
   obtain⟨bz,cF⟩:=apo (C:=C) (T:=T) (ad:=ad) (w:=w) (eY:=eY) t a
   exact⟨bz,cF,_,_,_,_,rfl,rfl⟩
  ·have aD:mB op=false:=by simpa using aD
   simp only[aD,lD,ahw,e7,Zg]at a
   obtain⟨rfl,a⟩:=a
   obtain⟨bz,cF⟩:=aph (C:=C) (T:=T) (ad:=ad) (w:=w) t a aD
   exact⟨bz,cF,_,_,_,_,rfl,rfl⟩
 ·simp at a
def Ny(T:db)(ad:Nat->Prop)(P:Program)(w:World)(s:Sem Next)(v:D):Prop:=s.run P w= .ok (.value (aQ T v)) w/\cm ad v
def oZ{P:Program}{s:Sem Value}{v:D}(a:s.run P w= .ok (aQ T v) w/\cm ad v):Ny T ad P w (do pure (.value (<-s))) v:=by
 refine⟨?_,a.2⟩
 simp[a.1]
def acf(Y:dn C T ad h j bo w){t:TypeId}(be:Fv C t=some false){H v:D}(az:cm ad H)(a:aP C h H=some v):
 (Instr.loadAt t (aQ T H)).run C.P w= .ok (aQ T v) w/\cm ad v:=by
 unfold aP at a
 split at a
 ·rename_i b W
  split at a
  ·rename_i c ax
   obtain⟨M,R⟩:=acW Y az ax a
   refine⟨?_,R⟩
   simp[Instr.loadAt,Instr.sureAddr,aQ,loadVar,Q7 be,M]
  ·simp at a
 ·simp at a
def acg(Y:dn C T ad h j bo w){t:TypeId}{n:Nat}(be:Fv C t=some true)(aD:jO C t=some n){H v:D}(az:cm ad H)(a:cG C h n H=some v):
 (Instr.loadAt t (aQ T H)).run C.P w= .ok (aQ T v) w/\cm ad v:=by
 unfold cG at a
 split at a
 ·rename_i b W
  split at a
  ·rename_i c ax
   split at a
   ·rename_i l aC
    simp at a;subst a
    obtain⟨M,R⟩:=N2 Y az ax aC
    refine⟨?_,R⟩
    simp[Instr.loadAt,Instr.sureAddr,aQ,loadVar,Q7 be,qb aD,M]
   ·simp at a
  ·simp at a
 ·simp at a
def ach(Y:dn C T ad h j bo w){t:TypeId}{H v:D}(az:cm ad H)(a:mj C h t H=some v):
 (Instr.loadAt t (aQ T H)).run C.P w= .ok (aQ T v) w/\cm ad v:=by
 unfold mj at a
 split at a
 ·rename_i s M R;exact acg Y M R az a
 ·rename_i M;exact acf Y M az a
 ·simp at a
def l1{H b:Nat}(a:Nat.blt H b=true):H<b:=by simp[Nat.blt]at a;omega
def jR{H b:Nat}(a:Nat.ble H b=true):H<=b:=by simpa using a
def FT{v:D}{n:Nat}(a:nV v=some n):∃z,v= .int z (Int.ofNat n):=by
 unfold nV at a
 split at a
 ·rename_i z bm
  split at a
  ·simp at a;subst a;exact⟨z,rfl⟩
  ·simp at a
 ·simp at a
def asa{s:TypeId}{kk:Array Field}{f bm:Nat}{tx:Field}(bg:C.P.underlying s=some (.struct kk))(b7:kk.toList[f]? =some tx)
 (ch:jO C tx.type=some bm)(l7:bm≠0){H v:D}(az:cm ad H)(a:gr tx.offset H=some v):
 (Instr.fieldAt s (aQ T H) f).run C.P w= .ok (aQ T v) w/\cm ad v:=by
 unfold gr at a
 split at a
 ·rename_i b W
  simp at a;subst a
  have rz:kk[f]? =some tx:=by rw[<-b7];simp
  refine⟨?_,az⟩
  simp[Instr.fieldAt,run_underlying bg,rz,Instr.sureAddr,aQ,fieldPlace,qb ch,l7,sl,ZK]
 ·simp at a
def axI{t:TypeId}{n bt i:Nat}{ek:TypeId}(bg:C.P.underlying t=some (.array n ek))(ch:jO C ek=some bt)
 {H v:D}{z:IntKind}(az:cm ad H)(a:Np n bt H i=some v):
 (Instr.indexAt t (aQ T H) (.int z (Int.ofNat i))).run C.P w= .ok (aQ T v) w/\cm ad v:=by
 unfold Np at a
 split at a
 ·rename_i b W
  simp only[e7,Zf]at a
  obtain⟨M,rfl⟩:=a
  have cZ:i<n:=l1 M
  refine⟨?_,az⟩
  simp[Instr.indexAt,asIntOf,run_underlying bg,Instr.sureAddr,aQ,qb ch,cZ,sl,ZK]
 ·simp at a
def axL{t:TypeId}{bt i:Nat}{ek:TypeId}(bg:C.P.underlying t=some (.slice ek))(ch:jO C ek=some bt)
 {H v:D}{z:IntKind}(az:cm ad H)(a:DB bt H i=some v):
 (Instr.indexAt t (aQ T H) (.int z (Int.ofNat i))).run C.P w= .ok (aQ T v) w/\cm ad v:=by
 unfold DB at a
 split at a
 ·rename_i b W n _
  simp only[e7,Zf]at a
  obtain⟨M,rfl⟩:=a
  have cZ:i<n:=l1 M
  refine⟨?_,az⟩
  simp[Instr.indexAt,asIntOf,run_underlying bg,aQ,qb ch,cZ,sl,ZK]
 ·rename_i b W n _
  simp only[e7,Zf]at a
  obtain⟨M,rfl⟩:=a
  have cZ:i<n:=l1 M
  refine⟨?_,az⟩
  simp[Instr.indexAt,asIntOf,run_underlying bg,aQ,qb ch,cZ,sl,ZK]
 ·simp at a
def aEp{H v:D}(az:cm ad H)(a:s5 H=some v):v=H/\(∀oper:Oper,∀av:Operand->Value,∀x,oper.op= .nilCheck x->av x=aQ T H->(execOp av oper).run C.P w= .ok (.value (aQ T v)) w):=by
 unfold s5 at a
 split at a
 ·simp at a;subst a
  refine⟨rfl,λoper av x bf ae=> ?_⟩
  simp[execOp,bf,ae,aQ]
 ·split at a
  ·simp at a;subst a
   refine⟨rfl,λoper av x bf ae=> ?_⟩
   simp[execOp,bf,ae,aQ,nK]
  ·simp at a;subst a
   refine⟨rfl,λoper av x bf ae=> ?_⟩
   simp[execOp,bf,ae,aQ,nK]
  ·simp at a
 ·simp at a;subst a
  refine⟨rfl,λoper av x bf ae=> ?_⟩
  simp[execOp,bf,ae,aQ]
 ·simp at a
def aEo{i:Nat}{H v:D}(az:cm ad H)(a:n8 i H=some v):(Instr.extract (aQ T H) i).run C.P w= .ok (aQ T v) w/\cm ad v:=by
 unfold n8 at a
 split at a
 ·rename_i br
  rw[qT]at a
  refine⟨?_,(vY ad br).1 az v (Zl a)⟩
  simp[Instr.extract,aQ,qw,a]
 ·simp at a
def adI{av:Operand->Value}{eE:Operand->Option D}:∀{l:List (Nat×Operand)}{dq:List (Nat×D)},jP T ad av eE (l.map (·.2))->Ag eE l=some dq->
 l.map (λx=>(x.1,av x.2))=dq.map (λx=>(x.1,aQ T x.2))/\∀x∈dq,cm ad x.2:=by
 intro l
 induction l with
 |nil=>intro dq _ a;simp[Ag]at a;subst a;simp
 |cons H l ai=>
  intro dq cC a
  obtain⟨i,x⟩:=H
  simp only[Ag]at a
  cases ae:eE x with
  |none=>simp[ae]at a
  |some v=>
   cases aC:Ag eE l with
   |none=>simp[ae,aC]at a
   |some r=>
    simp[ae,aC]at a;subst a
    obtain⟨H,b⟩:=ai (λe B=>cC e (by simp at B ⊢;exact .inr B)) aC
    obtain⟨c,d⟩:=cC x Zs v ae
    refine⟨by simp[H,c],λe B=> ?_⟩
    cases B with
    |head=>exact d
    |tail _ B=>exact b e B
def vL(T:db)(v:D):(aQ T v).cells=(b4 T v.cells).toArray:=by
 cases v<;>simp[aQ,Value.cells,D.cells,b4]
def vM{v:D}(a:cm ad v):ew ad v.cells:=by
 cases v with
 |agg cs=>exact a
 |_=>exact⟨a,trivial⟩
def ass(T:db):∀(br:List D) (cs:List D) (off z:Nat),
 ((b4 T br).zipIdx z).foldl (λ(cs:Array Value) (x:Value×Nat)=>cs.setIfInBounds (off+x.2) x.1) (b4 T cs).toArray=(b4 T (n3 cs (off+z) br)).toArray:=by
 intro br
 induction br with
 |nil=>intro cs off z;rfl
 |cons v br ai=>
  intro cs off z
  simp only[b4,List.zipIdx_cons,ZS,n3]
  have:(b4 T cs).toArray.setIfInBounds (off+z) (aQ T v)=(b4 T (cs.set (off+z) v)).toArray:=by
   apply Y1
   simp[qw,List.map_set]
  rw[this,ai]
  rfl
def atp{cs:List D}{i:Nat}{v:D}(a:ew ad cs)(bB:cm ad v):ew ad (cs.set i v):=by
 rw[vY]at a ⊢
 intro x ae
 rcases List.mem_or_eq_of_mem_set ae with cz|cz
 ·exact a x cz
 ·rw[cz];exact bB
def atq:∀(br cs:List D) (W:Nat),ew ad cs->ew ad br->ew ad (n3 cs W br):=by
 intro br
 induction br with
 |nil=>intro cs W a _;exact a
 |cons v br ai=>intro cs W a bB;exact ai _ _ (atp a bB.1) bB.2
def Tt{Ji MK:Nat->Option (Nat×Nat)}(aw:∀i x,Ji i=some x->MK i=some x):∀(dq:List (Nat×D)) (cs r:List D),ew ad cs->(∀x∈dq,cm ad x.2)->
 B6 Ji cs dq=some r->Instr.fill MK (b4 T cs).toArray (dq.map λx=>(x.1,aQ T x.2))=some (b4 T r).toArray/\ew ad r:=by
 intro dq
 induction dq with
 |nil=>intro cs r a _ b7;simp[B6]at b7;subst b7;exact⟨rfl,a⟩
 |cons p dq ai=>
  intro cs r a b2 b7
  obtain⟨i,v⟩:=p
  simp only[B6]at b7
  cases tV:Ji i with
  |none=>simp[tV]at b7
  |some x=>
   obtain⟨off,size⟩:=x
   simp only[tV,e7,Zp]at b7
   obtain⟨⟨M,R⟩,b7⟩:=b7
   have M:v.cells.length=size:=Zn M
   have R:off+size<=cs.length:=jR R
   have avm:cm ad v:=b2 (i,v) Zs
   obtain⟨H,b⟩:=ai (n3 cs off v.cells) r (atq _ _ _ a (vM avm)) (λx ae=>b2 x (by simp[ae])) b7
   refine⟨?_,b⟩
   simp only[ZP,Instr.fill,aw _ _ tV,vL]
   have fg:(b4 T v.cells).length=size:=by rw[qw,Zi,M]
   have wu:(b4 T cs).length=cs.length:=by rw[qw,Zi]
   rw[Zh]
   ·rw[<-H]
    congr 1
    have:=ass T v.cells cs off 0
    simp
    simpa using this
   ·simp[fg,wu];omega
def aB1{α eZ:Type}(P:Program)(w:World)(f:α->Sem eZ)(g:α->eZ):∀(l:List α),(∀H∈l,(f H).run P w= .ok (g H) w)->(l.mapM f).run P w= .ok (l.map g) w:=by
 intro l
 induction l with
 |nil=>intro _;simp
 |cons H l ai=>intro a;simp[za,a H Zs,ai (λb ag=>a b (by simp[ag]))]
def aDf{kk:List Field}{i:Nat}{x:Nat×Nat}(a:XJ C kk i=some x):∃f s,kk[i]? =some f/\jO C f.type=some s/\x=(f.offset,s):=by
 unfold XJ at a
 rw[qT]at a
 split at a
 ·rename_i f b7
  split at a
  ·rename_i s aD
   simp at a
   exact⟨f,s,b7,aD,a.symm⟩
  ·simp at a
 ·simp at a
def Ka{t:TypeId}{cs:List D}{off:Nat}{v:D}(b2:ew ad cs)(a:D6 C t cs off=some v):
 (part t (b4 T cs).toArray off).run C.P w= .ok (aQ T v) w/\cm ad v:=by
 unfold D6 at a
 split at a
 ·rename_i s M R
  simp at a;subst a
  constructor
  ·simp only[part,Sem.run_bind,Q7 M,Result.andThen_ok,ZE,qb R,Sem.run_pure,aQ,qw]
   congr 2
   apply Y1
   simp[List.map_take,List.map_drop,List.take_drop]
  ·simp only[cm]
   rw[vY]at b2 ⊢
   exact λx ae=>b2 x (zb (zc ae))
 ·rename_i M
  rw[qT]at a
  constructor
  ·simp[part,Q7 M,qw,a]
  ·exact(vY ad cs).1 b2 v (Zl a)
 ·simp at a
def apg{t:TypeId}{x i v:D}(ae:cm ad x)(a:NN C t x i=some v):(Instr.index t (aQ T x) (aQ T i)).run C.P w= .ok (aQ T v) w/\cm ad v:=by
 unfold NN at a
 split at a
 ·simp at a
 ·rename_i n aE
  obtain⟨z,rfl⟩:=FT aE
  split at a
  ·rename_i m ek cs bg
   split at a
   ·rename_i bt ch
    simp only[e7]at a
    obtain⟨M,R⟩:=a
    have cZ:=l1 M
    obtain⟨ak,aA⟩:=Ka (T:=T) (w:=w) ae R
    refine⟨?_,aA⟩
    simp[Instr.index,asIntOf,aQ,run_underlying bg,cZ,qb ch,ak]
   ·simp at a
  ·rename_i s bg
   rw[qT]at a
   split at a
   ·rename_i c ax
    simp at a;subst a
    refine⟨?_,trivial⟩
    have ag:(gg s)[n]? =some (UInt8.ofNat c):=by
     show(gg s).data[n]? =_
     simp[gg,ax]
    have cZ:c<256:=ae c (Zl ax)
    simp[Instr.index,asIntOf,aQ,run_underlying bg,ag,YF cZ]
   ·simp at a
  ·simp at a
def apt{op:UnOp}{x v:D}(a:gm op x=some v):(Op.unary op (aQ T x)).run C.P w= .ok (aQ T v) w/\cm ad v:=by
 unfold gm at a
 split at a
 ·rename_i z n
  simp[mi]at a;subst a
  exact⟨by simp[Op.unary,Op.intArith,aQ],trivial⟩
 ·rename_i z n
  simp[mi]at a;subst a
  exact⟨rfl,trivial⟩
 ·simp at a;subst a;exact⟨rfl,trivial⟩
 ·simp at a
def aAd:∀{l:List Field},QH C l=true->∀f∈l,∃s,jO C f.type=some s:=by
 intro l
 induction l with
 |nil=>intro _ f b7;simp at b7
 |cons H l ai=>
  intro a f b7
  simp only[QH,Zp]at a
  cases b7 with
  |head=>cases aD:jO C H.type with
   |none=>simp[aD]at a
   |some s=>exact⟨s,rfl⟩
  |tail _ b7=>exact ai a.2 f b7
def apa{t:TypeId}{dq:List (Nat×D)}{v:D}(b2:∀x∈dq,cm ad x.2)(a:NK C t dq=some v):
 (Instr.build t ((dq.map λx=>(x.1,aQ T x.2)).toArray)).run C.P w= .ok (aQ T v) w/\cm ad v:=by
 unfold NK at a
 split at a
 ·simp at a
 ·rename_i bm ch
  obtain⟨IG,IH⟩:=Gl ch T ad w
  split at a
  ·rename_i kk bg
   simp only[e7]at a
   obtain⟨fs,a⟩:=a
   split at a
   ·rename_i cs it
    simp at a;subst a
    have bp:(kk.mapM λf=>do pure (f.offset, <-sizeOf f.type):Sem (Array (Nat×Nat))).run C.P w= .ok (kk.toList.map λf=>(f.offset,(jO C f.type).getD 0)).toArray w:=by
     rw[Array.mapM_eq_mapM_toList,Sem.run_map,aB1 C.P w _ (λf:Field=>(f.offset,(jO C f.type).getD 0)) _ (λf b7=>by
      obtain⟨s,aD⟩:=aAd fs f b7
      simp[qb aD,aD])]
     rfl
    obtain⟨H,b⟩:=Tt (T:=T) (MK:=λi=>((kk.toList.map λf=>(f.offset,(jO C f.type).getD 0)).toArray)[i]?) (λi x ae=>by
     obtain⟨f,s,M,R,rfl⟩:=aDf ae
     simp at M
     simp[M,R]) dq bm.cells cs (vM IH) b2 it
    refine⟨?_,b⟩
    simp only[Instr.build,Sem.run_bind,IG,Result.andThen_ok,run_underlying bg,bp,vL,H,aQ,Sem.run_pure]
   ·simp at a
  ·rename_i n ek bg
   split at a
   ·rename_i s aD
    split at a
    ·rename_i cs it
     simp at a;subst a
     obtain⟨H,b⟩:=Tt (T:=T) (MK:=λi=>some (i*s,s)) (λ_ _ a=>a) dq bm.cells cs (vM IH) b2 it
     refine⟨?_,b⟩
     simp[Instr.build,IG,run_underlying bg,qb aD,vL,H,aQ]
    ·simp at a
   ·simp at a
  ·simp at a
end
section
variable{C:aK}{T:db}{ad:Nat->Prop}{h:Q af}{j bo:Nat}{w:World}
def aiz{H b:Nat}(az:H<256)(ag:b<256)(a:UInt8.ofNat H=UInt8.ofNat b):H=b:=by
 have:=congrArg UInt8.toNat a
 simp at this
 omega
def Mz:∀(x e:List Nat),mX x e=true↔x=e
 |[],[]=>by simp[mX]
 |[],_::_=>by simp[mX]
 |_::_,[]=>by simp[mX]
 |H::x,b::e=>by
  simp only[mX,Zp,Mz x e,YL]
  exact⟨λ⟨a,E⟩=>⟨Zn a,E⟩,λ⟨a,E⟩=>⟨by rw[a];exact ze _,E⟩⟩
def azl:∀{x e:List Nat},(∀H∈x,H<256)->(∀H∈e,H<256)->x.map UInt8.ofNat=e.map UInt8.ofNat->x=e:=by
 intro x
 induction x with
 |nil=>intro e _ _ a;cases e with
  |nil=>rfl
  |cons b e=>simp at a
 |cons H x ai=>
  intro e ae B a
  cases e with
  |nil=>simp at a
  |cons b e=>
   simp only[ZP,YL]at a
   rw[aiz (ae H Zs) (B b Zs) a.1,ai (λc ax=>ae c (by simp[ax])) (λc ax=>B c (by simp[ax])) a.2]
def NX(s:List Nat):(gg s).toList=s.map UInt8.ofNat:=by
 rw[ByteArray.toList_eq];simp[gg]
def XI{x e:List Nat}(ae:∀H∈x,H<256)(B:∀H∈e,H<256):((gg x).toList==(gg e).toList)=mX x e:=by
 rw[Ya,Mz,Y2,NX,NX]
 exact⟨azl ae B,λa=>by rw[a]⟩
def ajG:∀{x e:List Nat},(∀H∈x,H<256)->(∀H∈e,H<256)->Op.bytesLess (x.map UInt8.ofNat) (e.map UInt8.ofNat)=Db x e
 |[],[],_,_=>rfl
 |[],_::_,_,_=>rfl
 |_::_,[],_,_=>rfl
 |H::x,b::e,ae,B=>by
  have az:=ae H Zs
  have ag:=B b Zs
  have ai:=ajG (λc ax=>ae c (Zw _ ax)) (λc ax=>B c (Zw _ ax))
  simp only[ZP,Op.bytesLess,Db,ai]
  have bz:decide (UInt8.ofNat H<UInt8.ofNat b)=Nat.blt H b:=by
   rw[Ya,Zg,UInt8.lt_iff_toNat_lt]
   simp[Nat.blt,YF az,YF ag];omega
  have cF:(UInt8.ofNat H==UInt8.ofNat b)=Nat.beq H b:=by
   rw[Ya,Y2]
   exact⟨λa=>by rw[aiz az ag a];exact ze _,λa=>by rw[Zn a]⟩
  rw[bz,cF]
def QW(Y:dn C T ad h j bo w){b W:Nat}(ag:ad b)(a:C3 C h b W=true):
 ∃c n st cp ty bL aG,U C h b=some (.cells c n st)/\W<n/\w.heap[(T b).cL]? =some (.cells cp ty (bL,aG))/\Ha st n (T b) cp.size bL aG/\(T b).ei+n<=cp.size/\st≠ .kw:=by
 unfold C3 at a
 split at a
 ·simp at a
 ·rename_i c n st kG bf
  obtain⟨cp,ty,bL,aG,M,R,ak,_⟩:=Y.obj b _ bf ag
  exact⟨c,n,st,cp,ty,bL,aG,bf,l1 (by simpa using a),M,R,ak,λE=>(by subst E;first|exact kG _ bf|exact kG _ rfl|exact kG rfl|exact kG bf|simp_all)⟩
 ·simp at a
def aiJ{b W:Nat}(a:Jg C h b W=true):C3 C h b W=true/\C.a2<=b/\∃c n,U C h b=some (.cells c n .own):=by
 unfold Jg at a
 unfold C3
 split at a
 ·rename_i c n bf
  simp only[bf,Zp]at a ⊢
  exact⟨a.2,jR a.1,c,n,rfl⟩
 ·simp at a
def Xq{r:Nat}{cp:Array Value}{ty:TypeId}{f:Nat×Nat}(a:w.heap[r]? =some (.cells cp ty f)):w.shape? r=some (ty,cp.size):=by
 simp[World.shape?,a]
def ajo{P:Program}{p aj:Nat}{x e:Nat}{bb b5:Array Value}{t1 eK:TypeId}{eo M cR R:Nat}(dQ:p≠aj)
 (bz:w.heap[p]? =some (.cells bb t1 (eo,M)))(cF:w.heap[aj]? =some (.cells b5 eK (cR,R)))(eR:M<=eo)(ji:x<bb.size)(h2:e<b5.size)(fk:R<=cR\/b5.size<=cR):
 (sameAddr ⟨p,x,none⟩ ⟨aj,e,none⟩).run P w= .ok false w/\(sameAddr ⟨aj,e,none⟩ ⟨p,x,none⟩).run P w= .ok false w:=by
 have bI:w.frozen? ⟨p,x,none⟩=false:=by simp[World.frozen?,bz];omega
 have bN:w.frozen? ⟨aj,e,none⟩=false:=by simp[World.frozen?,cF];omega
 have cH:w.frozen? ⟨p,bb.size,none⟩=false:=by simp[World.frozen?,bz];omega
 have jw:=Xq bz
 have j0:=Xq cF
 have f5:bb.size≠0:=Zo
 have fK:b5.size≠0:=Zo
 have avT:aj≠p:=λE=>dQ E.symm
 constructor
 ·simp[sameAddr,dQ,bI,bN,cH,noView,viewAt,jw,j0,mayBeOne,stringish,fK]
 ·simp[sameAddr,avT,bI,bN,cH,noView,viewAt,jw,j0,mayBeOne,stringish,f5,fK]
def aBc(Y:dn C T ad h j bo w){b W dM o':Nat}{r:Bool}(ag:ad b)(km:ad dM)(a:ptrEq C h b W dM o'=some r):
 (sameAddr ⟨(T b).cL,(T b).ei+W,none⟩ ⟨(T dM).cL,(T dM).ei+o',none⟩).run C.P w= .ok r w:=by
 unfold ptrEq at a
 rw[h4]at a
 split at a
 ·rename_i E
  subst E
  simp at a;subst a
  simp only[sameAddr,YG,ZE,Sem.run_pure]
  congr 1
  rw[Ya,Y2]
  constructor
  ·intro a;simp at a;rw[a];exact ze _
  ·intro a;rw[Zn a]
 ·rename_i dQ
  simp only[e7,Y4,Zp,Zf]at a
  obtain⟨a,rfl⟩:=a
  rcases a with ⟨M,R⟩|⟨M,R⟩
  ·obtain⟨ak,aA,c,n,bv⟩:=aiJ M
   obtain⟨cX,aO,XE,bb,t1,eo,w5,bz,ji,RD,f5,bQ,_⟩:=QW Y ag ak
   obtain⟨dN,aZ,aCL,b5,eK,cR,Dz,cF,h2,RE,fK,ct,WY⟩:=QW Y km R
   have dd:XE= .own:=by rw[bv]at bz;cases bz;rfl
   subst dd
   have UC:(T b).cL≠(T dM).cL:=by
    intro E
    rcases(Y.sep b dM _ _ bz cF ag km dQ aA E).1 with ⟨_,_,_,_,aj,_⟩|⟨_,_,_,_,_,aj,_⟩|⟨_,_,_,_,_,_,aj,_⟩<;>cases aj
   exact(ajo UC RD RE (zd f5.symm) Zo Zo (fK.free WY)).1
  ·obtain⟨ak,aA,c,n,bv⟩:=aiJ M
   obtain⟨cX,aO,XE,bb,t1,eo,w5,bz,ji,RD,f5,bQ,_⟩:=QW Y km ak
   obtain⟨dN,aZ,aCL,b5,eK,cR,Dz,cF,h2,RE,fK,ct,WY⟩:=QW Y ag R
   have dd:XE= .own:=by rw[bv]at bz;cases bz;rfl
   subst dd
   have UC:(T dM).cL≠(T b).cL:=by
    intro E
    rcases(Y.sep dM b _ _ bz cF km ag (λaj=>dQ aj.symm) aA E).1 with ⟨_,_,_,_,aj,_⟩|⟨_,_,_,_,_,aj,_⟩|⟨_,_,_,_,_,_,aj,_⟩<;>cases aj
   exact(ajo UC RD RE (zd f5.symm) Zo Zo (fK.free WY)).2
def apd{eq:Nat->D->D->Option Bool}{d:Nat}(e8:∀t x e r,cm ad x->cm ad e->eq t x e=some r->(Op.equalIn d t (aQ T x) (aQ T e)).run C.P w= .ok r w):
 ∀(jF:List Field) (cn m6:List D) (r:Bool),ew ad cn->ew ad m6->yZ C eq jF cn m6=some r->(Op.eqFields d (b4 T cn).toArray (b4 T m6).toArray jF).run C.P w= .ok r w:=by
 intro jF
 induction jF with
 |nil=>intro cn m6 r _ _ a;simp[yZ]at a;subst a;simp[Op.eqFields]
 |cons f jF ai=>
  intro cn m6 r ae B a
  simp only[yZ,Hw,beq_eq_false_iff_ne]at a
  obtain⟨aE,a⟩:=a
  split at a
  ·rename_i H b az ag
   obtain⟨bb,b5⟩:=Ka (T:=T) (w:=w) ae az
   obtain⟨bY,co⟩:=Ka (T:=T) (w:=w) B ag
   split at a
   ·rename_i E
    simp only[Op.eqFields,aE,ne_eq,ZG,ZE,Sem.run_bind,bb,bY,e8 _ _ _ _ b5 co E,Result.andThen_ok,Yq,Zy,ZD]
    exact ai cn m6 r ae B a
   ·rename_i E
    simp at a;subst a
    simp only[Op.eqFields,aE,ne_eq,ZG,ZE,Sem.run_bind,bb,bY,e8 _ _ _ _ b5 co E,Result.andThen_ok,Yr,Sem.run_pure]
   ·simp at a
  ·simp at a
def Sm(Y:dn C T ad h j bo w):∀(d l3:Nat) (t:Nat) (x e:D) (r:Bool),d<=l3->cm ad x->cm ad e->i2 C h d t x e=some r->
 (Op.equalIn l3 t (aQ T x) (aQ T e)).run C.P w= .ok r w:=by
 intro d
 induction d with
 |zero=>intro l3 t x e r _ _ _ a;simp[i2]at a
 |succ d ai=>
  intro l3 t x e r aF ff v2 a
  obtain⟨l3,rfl⟩:∃E,l3=E+1:=⟨l3-1,Zo⟩
  unfold i2 at a
  split at a
  ·rename_i bg;simp at a;subst a;simp[Op.equalIn,run_underlying bg,aQ]
  ·rename_i bg;simp at a;obtain⟨rfl,rfl⟩:=a;simp[Op.equalIn,run_underlying bg,aQ];rfl
  ·rename_i H b bg
   simp at a;subst a
   rw[aQ,aQ,run_equalIn_string w l3 t _ _ bg,XI ff v2]
  ·rename_i bg;simp at a;subst a;simp[Op.equalIn,run_underlying bg,aQ]
  ·rename_i bg;simp at a;subst a;simp[Op.equalIn,run_underlying bg,aQ]
  ·rename_i bg;simp at a;subst a;simp[Op.equalIn,run_underlying bg,aQ]
  ·rename_i E b W dM o' bg
   split at a
   ·rename_i s aD
    rw[h4]at a
    split at a
    ·simp at a
    ·rename_i PS
     have:=aBc Y ff v2 a
     simp[Op.equalIn,run_underlying bg,aQ,qb aD,PS,this]
   ·simp at a
  ·rename_i bg;simp at a;subst a;simp[Op.equalIn,run_underlying bg,aQ]
  ·rename_i bg;simp at a;subst a;simp[Op.equalIn,run_underlying bg,aQ]
  ·rename_i bg;simp at a;subst a;simp[Op.equalIn,run_underlying bg,aQ]
  ·rename_i M9 Rr ty Rs bg
   rw[h4]at a
   split at a
   ·rename_i E
    subst E
    split at a
    ·rename_i i aG
     simp only[e7]at a
     obtain⟨ax,a⟩:=a
     have:=ai l3 M9 Rr Rs r Zo ff v2 a
     simp[Op.equalIn,run_underlying bg,aQ,typeInfo,aG,ax,this]
    ·simp at a
   ·rename_i E
    simp at a;subst a
    simp[Op.equalIn,run_underlying bg,aQ,E]
  all_goals first
   |(rename_i bg;simp at a;subst a;simp[Op.equalIn,run_underlying bg,aQ];done)
   |skip
  ·rename_i kk cn m6 bg
   simp only[Hw]at a
   obtain⟨aw,a⟩:=a
   have b7:C.P.fieldsOf t=kk:=by simp[Program.fieldsOf,bg]
   rw[aQ,aQ,run_equalIn_struct w l3 t _ _ (by rw[b7];exact bg) aw,b7]
   exact apd (λt x e r ff v2 a=>ai l3 t x e r Zo ff v2 a) _ _ _ _ ff v2 a
  ·simp at a
end
section
variable{C:aK}{T:db}{ad:Nat->Prop}{h:Q af}{j bo:Nat}{w:World}
def binOp_eql{t:TypeId}{X eO:Value}(M:∀z H eY b,¬(X= .int z H/\eO= .int eY b))(R:∀H b,¬(X= .string H/\eO= .string b))
 (ak:∀z H,X≠ .float z H)(aA:∀z H b,X≠ .complex z H b):binOp .eql t X eO=(do pure (.bool (<-Op.equal t X eO)))/\binOp .neq t X eO=(do pure (.bool (!(<-Op.equal t X eO)))):=by
 constructor
 ·unfold binOp
  split
  all_goals first
   |rfl
   |exact absurd ⟨rfl,rfl⟩ (M _ _ _ _)
   |exact absurd ⟨rfl,rfl⟩ (R _ _)
   |exact absurd rfl (ak _ _)
   |exact absurd rfl (aA _ _ _)
   |simp_all
 ·unfold binOp
  split
  all_goals first
   |rfl
   |exact absurd ⟨rfl,rfl⟩ (M _ _ _ _)
   |exact absurd ⟨rfl,rfl⟩ (R _ _)
   |exact absurd rfl (ak _ _)
   |exact absurd rfl (aA _ _ _)
   |simp_all
def ac4(T:db)(v:D):(∀z H,aQ T v≠ .float z H)/\∀z H b,aQ T v≠ .complex z H b:=by
 cases v<;>simp[aQ]
def arJ{m:Nat}{t:TypeId}{iT:Array (String×TypeId)}(bg:C.P.underlying t=some (.interface iT))(bC:iT.isEmpty=true):(Op.eqGuardIn (m+1) t .nilIface .nilIface).run C.P w= .ok false w:=by
 simp[Op.eqGuardIn,run_underlying bg,bC]
def arK{op:BinOp}{t:TypeId}{x e:Operand}{X eO:Value}(a:(rL x||rL e)=true)(R:∀c d,¬(X= .agg c/\eO= .agg d)):
 (eqGuard op t x e X eO).run C.P w= .ok () w:=by
 cases op<;>first|rfl|(cases x<;>cases e<;>first|(simp[rL]at a;done)|(cases X<;>cases eO<;>first|rfl|exact absurd ⟨rfl,rfl⟩ (R _ _)))
def arL{op:BinOp}{t:TypeId}{x e:Operand}{iT:Array (String×TypeId)}(bg:C.P.underlying t=some (.interface iT))(bC:iT.isEmpty=true):
 (eqGuard op t x e .nilIface .nilIface).run C.P w= .ok () w:=by
 have key:=arJ (C:=C) (w:=w) (m:=9999) bg bC
 have M:Op.maxDepth=9999+1:=rfl
 cases op<;>first|rfl|(cases x<;>cases e<;>first|rfl|(simp[eqGuard,M,key];done))
def arM{op:BinOp}{t:TypeId}{x e:Operand}(a:(rL x||rL e||(match C.P.underlying t with|some (.interface iT)=>iT.isEmpty|_=>false))=true):
 (eqGuard op t x e .nilIface .nilIface).run C.P w= .ok () w:=by
 by_cases ax:(rL x||rL e)=true
 ·exact arK ax Zs
 ·have ax:(rL x||rL e)=false:=by simpa using ax
  rw[ax,Bool.false_or]at a
  split at a
  ·rename_i iT bg
   exact arL bg a
  ·simp at a
def arN{op:BinOp}{t:TypeId}{x e:Operand}{X eO:Value}(M:¬(X= .nilIface/\eO= .nilIface))(R:∀c d,¬(X= .agg c/\eO= .agg d)):
 (eqGuard op t x e X eO).run C.P w= .ok () w:=by
 cases op<;>first|rfl|(cases X<;>cases eO<;>first|rfl|exact absurd ⟨rfl,rfl⟩ M|exact absurd ⟨rfl,rfl⟩ (R _ _))
def Om{op:BinOp}{t:TypeId}{x e:Operand}{H b:D}(a:HF C t (rL x||rL e) H b=true):
 (eqGuard op t x e (aQ T H) (aQ T b)).run C.P w= .ok () w:=by
 unfold HF at a
 split at a
 ·exact arM a
 ·simp only[aQ]
  exact run_eqGuard_agg w op t x e _ _ (by simpa using a)
 ·rename_i aO aZ
  refine arN ?_ ?_
  ·rintro⟨M,R⟩
   cases H<;>simp[aQ]at M
   cases b<;>simp[aQ]at R
   exact aO rfl rfl
  ·rintro c d ⟨M,R⟩
   cases H<;>simp[aQ]at M
   cases b<;>simp[aQ]at R
   exact aZ _ _ rfl rfl
def apr{op:BinOp}{x e:List Nat}{v:D}(ae:∀H∈x,H<256)(B:∀H∈e,H<256)(a:BN op x e=some v):
 (Op.stringOp op (gg x) (gg e)).run C.P w= .ok (aQ T v) w/\cm ad v:=by
 have bz:=XI ae B
 have cF:Op.bytesLess (gg x).toList (gg e).toList=Db x e:=by rw[NX,NX];exact ajG ae B
 cases op<;>simp only[BN,xA,e7,Zf]at a<;>
  first
  |(
    obtain⟨M,rfl⟩:=a
    constructor
    ·have aD:(gg x).size=x.length:=by simp[gg,ByteArray.size]
     have tY:(gg e).size=e.length:=by simp[gg,ByteArray.size]
     have gn:=jR M
     simp only[Op.stringOp,aD,tY]
     rw[Zh (by simp[IntKind.max,IntKind.signed,IntKind.bits];omega)]
     simp only[Sem.run_pure,aQ]
     congr 2
     apply ByteArray.ext
     simp[gg]
    ·simp only[cm]
     intro bm ch
     rcases Zz.1 ch with a|a
     ·exact ae bm a
     ·exact B bm a)
  |(subst a;exact⟨by simp only[Op.stringOp,bz,cF,Sem.run_pure,aQ],trivial⟩)
  |(simp at a)
def ayq(Y:dn C T ad h j bo w){op:BinOp}{t:Nat}{x e:Operand}{av:Operand->Value}{eE:Operand->Option D}{v:D}(cC:jP T ad av eE [x,e])
 (a:Qm C op t x e h eE=some v):(do eqGuard op t x e (av x) (av e);binOp op t (av x) (av e):Sem Value).run C.P w= .ok (aQ T v) w/\cm ad v:=by
 unfold Qm at a
 split at a
 ·rename_i H b az ag
  obtain⟨arq,f1⟩:=cC x Zs H az
  obtain⟨jT,kC⟩:=cC e Zs b ag
  rw[arq,jT]
  unfold c5 at a
  split at a
  ·rename_i z i eY S
   obtain⟨M,R,_⟩:=acd (C:=C) (T:=T) (ad:=ad) (w:=w) t a
   refine⟨?_,R⟩
   rw[Sem.run_bind,Om (by simp[HF])]
   exact M
  ·rename_i s eJ
   obtain⟨M,R⟩:=apr (C:=C) (T:=T) (ad:=ad) (w:=w) f1 kC a
   refine⟨?_,R⟩
   rw[Sem.run_bind,Om (by simp[HF])]
   simp only[Result.andThen_ok,aQ,binOp]
   exact M
  ·rename_i ud mY
   simp only[e7]at a
   obtain⟨fs,a⟩:=a
   have b0:∀r,i2 C h 50 t H b=some r->(Op.equal t (aQ T H) (aQ T b)).run C.P w= .ok r w:=λr mR=>Sm Y 50 _ t H b r Zd f1 kC mR
   have ng:∀z bm eY Nq,¬(aQ T H= .int z bm/\aQ T b= .int eY Nq):=by
    intro z bm eY Nq ⟨M,R⟩
    cases H<;>simp[aQ]at M
    cases b<;>simp[aQ]at R
    exact ud _ _ _ _ rfl rfl
   have l4:∀bm Nq,¬(aQ T H= .string bm/\aQ T b= .string Nq):=by
    intro bm Nq ⟨M,R⟩
    cases H<;>simp[aQ]at M
    cases b<;>simp[aQ]at R
    exact mY _ _ rfl rfl
   obtain⟨cN,cA⟩:=binOp_eql (t:=t) ng l4 (ac4 T H).1 (ac4 T H).2
   rw[Sem.run_bind,Om fs]
   split at a
   ·split at a
    ·rename_i r mR
     simp at a;subst a
     exact⟨by simp[cN,b0 r mR,aQ],trivial⟩
    ·simp at a
   ·split at a
    ·rename_i r mR
     simp at a;subst a
     exact⟨by simp[cA,b0 r mR,aQ],trivial⟩
    ·simp at a
   ·simp at a
 ·simp at a
end
end Go.bd

